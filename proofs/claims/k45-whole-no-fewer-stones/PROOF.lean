import PyProof.Rows.All
import HandS.HeadEnd
import HandS.Ends
import Wide.All
import OpenK.AllK
import Wide.FinOn
import KE.KStateDown
import HandS.ForMost
import HandS.Defaults
import HandS.HeadHook1
import HandS.HeadHook2
import PySem.Challenge.RW_joinreach_k45_whole_no_fewer_stones
import HandS.Walk
import HandS.IsInst
import HandS.Flow
import HandS.Style
import HandS.Deep
import HandS.Zip
import HandS.TupAny
import KE.GoesOver
import KE.GoesZip
import KE.GoesMore
import KE.GoesEnum
import HandS.Conv
import HandS.RevTup
import HandS.SetBool
import HandS.Strs
import HandS.SetTxt0
import HandS.SetFor
import HandS.SetIn
import KE.DataMinMax
import KE.SortData
import HandS.Codes
import HandS.SetKeys
import HandS.Text
import HandS.Steps
import PyProof.SumWalk
import HandS.TupLe
import PyProof.P3In
import HandS.WideBits
import HandS.OwnEq
import Lean
import HandS.Head0
import HandS.Head1
import HandS.Head2
import HandS.HeadHook4
set_option Elab.async false
set_option linter.all false
set_option maxRecDepth 100000
namespace Jr
open PySem PySem.Spec PyProof.Rows L2
abbrev jrP : Program := PySem.Challenge.pw_joinreach_k45_whole_no_fewer_stones
def top (i : Nat) : Stmt := jrP.main.body.getD i (.Pass ⟨0, 0, 0, 0⟩)
def clsBody : Stmt → List Stmt
  | .ClassDef _ _ _ b .. => b
  | _ => []
def inW (i : Nat) : Stmt := (clsBody (top 34)).getD i (.Pass ⟨0, 0, 0, 0⟩)
abbrev s_is_whole : Stmt := top 20
abbrev s_is_within : Stmt := top 21
abbrev s_is_tree : Stmt := top 22
abbrev s_check_tree : Stmt := top 23
abbrev s_check_place : Stmt := top 24
abbrev s_downward : Stmt := top 25
abbrev s_steps_between : Stmt := top 26
abbrev s_way : Stmt := top 27
abbrev s_gaps : Stmt := top 28
abbrev s_hangs_together : Stmt := top 30
abbrev s_branch_around : Stmt := top 31
abbrev s_least_gap : Stmt := top 32
abbrev s_check_world : Stmt := top 35
abbrev s_makes_part : Stmt := top 37
abbrev s_makes_spot : Stmt := top 38
abbrev s_check_part : Stmt := top 39
abbrev s_check_spot : Stmt := top 40
abbrev s_check_two : Stmt := top 41
abbrev s_is_part : Stmt := top 42
abbrev s_as_part : Stmt := top 43
abbrev s_part_in : Stmt := top 44
abbrev s_part_far : Stmt := top 45
abbrev s_part_hull : Stmt := top 46
abbrev s_nearest : Stmt := top 47
abbrev s_is_name : Stmt := top 51
abbrev s_first_wrong : Stmt := top 52
abbrev s_check_book : Stmt := top 53
abbrev s_part_of : Stmt := top 54
abbrev s_check_reach : Stmt := top 56
abbrev s_closed : Stmt := top 57
abbrev s_together : Stmt := top 58
abbrev s_walked : Stmt := top 60
abbrev s_stones_for : Stmt := top 61
abbrev s_stones : Stmt := top 62
abbrev s_all_spots : Stmt := top 63
abbrev s_helps : Stmt := top 64
abbrev s__law_cell : Stmt := top 66
abbrev s__law_purse : Stmt := top 67
abbrev s__law_pick : Stmt := top 68
abbrev s__law_wood : Stmt := top 69
abbrev s__law_gaps : Stmt := top 70
abbrev s__law_way_of : Stmt := top 71
abbrev s__law_limb_by : Stmt := top 72
abbrev s__law_piece : Stmt := top 73
abbrev s__law_point : Stmt := top 74
abbrev s__law_all_points : Stmt := top 75
abbrev s__law_bring : Stmt := top 76
abbrev s__law_no_fewer : Stmt := top 77
abbrev s__law_helps_right : Stmt := top 78
abbrev s__law_right : Stmt := top 79
abbrev s_law : Stmt := top 80
abbrev s_W_init : Stmt := inW 0
abbrev s_W_sizes : Stmt := inW 1
def d_is_whole : He.DefD := ⟨("is_whole", none), "is_whole", "is_whole", defArgs s_is_whole, defBody s_is_whole, defScope s_is_whole, [], []⟩
def d_is_within : He.DefD := ⟨("is_within", none), "is_within", "is_within", defArgs s_is_within, defBody s_is_within, defScope s_is_within, [], []⟩
def d_is_tree : He.DefD := ⟨("is_tree", none), "is_tree", "is_tree", defArgs s_is_tree, defBody s_is_tree, defScope s_is_tree, [], []⟩
def d_check_tree : He.DefD := ⟨("check_tree", none), "check_tree", "check_tree", defArgs s_check_tree, defBody s_check_tree, defScope s_check_tree, [], []⟩
def d_check_place : He.DefD := ⟨("check_place", none), "check_place", "check_place", defArgs s_check_place, defBody s_check_place, defScope s_check_place, [], []⟩
def d_downward : He.DefD := ⟨("downward", none), "downward", "downward", defArgs s_downward, defBody s_downward, defScope s_downward, [], []⟩
def d_steps_between : He.DefD := ⟨("steps_between", none), "steps_between", "steps_between", defArgs s_steps_between, defBody s_steps_between, defScope s_steps_between, [], []⟩
def d_way : He.DefD := ⟨("way", none), "way", "way", defArgs s_way, defBody s_way, defScope s_way, [], []⟩
def d_gaps : He.DefD := ⟨("gaps", none), "gaps", "gaps", defArgs s_gaps, defBody s_gaps, defScope s_gaps, [], []⟩
def d_hangs_together : He.DefD := ⟨("hangs_together", none), "hangs_together", "hangs_together", defArgs s_hangs_together, defBody s_hangs_together, defScope s_hangs_together, [], []⟩
def d_branch_around : He.DefD := ⟨("branch_around", none), "branch_around", "branch_around", defArgs s_branch_around, defBody s_branch_around, defScope s_branch_around, [], []⟩
def d_least_gap : He.DefD := ⟨("least_gap", none), "least_gap", "least_gap", defArgs s_least_gap, defBody s_least_gap, defScope s_least_gap, [], []⟩
def d_check_world : He.DefD := ⟨("check_world", none), "check_world", "check_world", defArgs s_check_world, defBody s_check_world, defScope s_check_world, [], []⟩
def d_makes_part : He.DefD := ⟨("makes_part", none), "makes_part", "makes_part", defArgs s_makes_part, defBody s_makes_part, defScope s_makes_part, [], []⟩
def d_makes_spot : He.DefD := ⟨("makes_spot", none), "makes_spot", "makes_spot", defArgs s_makes_spot, defBody s_makes_spot, defScope s_makes_spot, [], []⟩
def d_check_part : He.DefD := ⟨("check_part", none), "check_part", "check_part", defArgs s_check_part, defBody s_check_part, defScope s_check_part, [], []⟩
def d_check_spot : He.DefD := ⟨("check_spot", none), "check_spot", "check_spot", defArgs s_check_spot, defBody s_check_spot, defScope s_check_spot, [], []⟩
def d_check_two : He.DefD := ⟨("check_two", none), "check_two", "check_two", defArgs s_check_two, defBody s_check_two, defScope s_check_two, [], []⟩
def d_is_part : He.DefD := ⟨("is_part", none), "is_part", "is_part", defArgs s_is_part, defBody s_is_part, defScope s_is_part, [], []⟩
def d_as_part : He.DefD := ⟨("as_part", none), "as_part", "as_part", defArgs s_as_part, defBody s_as_part, defScope s_as_part, [], []⟩
def d_part_in : He.DefD := ⟨("part_in", none), "part_in", "part_in", defArgs s_part_in, defBody s_part_in, defScope s_part_in, [], []⟩
def d_part_far : He.DefD := ⟨("part_far", none), "part_far", "part_far", defArgs s_part_far, defBody s_part_far, defScope s_part_far, [], []⟩
def d_part_hull : He.DefD := ⟨("part_hull", none), "part_hull", "part_hull", defArgs s_part_hull, defBody s_part_hull, defScope s_part_hull, [], []⟩
def d_nearest : He.DefD := ⟨("nearest", none), "nearest", "nearest", defArgs s_nearest, defBody s_nearest, defScope s_nearest, [], []⟩
def d_is_name : He.DefD := ⟨("is_name", none), "is_name", "is_name", defArgs s_is_name, defBody s_is_name, defScope s_is_name, [], []⟩
def d_first_wrong : He.DefD := ⟨("first_wrong", none), "first_wrong", "first_wrong", defArgs s_first_wrong, defBody s_first_wrong, defScope s_first_wrong, [], []⟩
def d_check_book : He.DefD := ⟨("check_book", none), "check_book", "check_book", defArgs s_check_book, defBody s_check_book, defScope s_check_book, [], []⟩
def d_part_of : He.DefD := ⟨("part_of", none), "part_of", "part_of", defArgs s_part_of, defBody s_part_of, defScope s_part_of, [], []⟩
def d_check_reach : He.DefD := ⟨("check_reach", none), "check_reach", "check_reach", defArgs s_check_reach, defBody s_check_reach, defScope s_check_reach, [], []⟩
def d_closed : He.DefD := ⟨("closed", none), "closed", "closed", defArgs s_closed, defBody s_closed, defScope s_closed, [], []⟩
def d_together : He.DefD := ⟨("together", none), "together", "together", defArgs s_together, defBody s_together, defScope s_together, [], [("reach", .int 1)]⟩
def d_walked : He.DefD := ⟨("walked", none), "walked", "walked", defArgs s_walked, defBody s_walked, defScope s_walked, [], []⟩
def d_stones_for : He.DefD := ⟨("stones_for", none), "stones_for", "stones_for", defArgs s_stones_for, defBody s_stones_for, defScope s_stones_for, [], []⟩
def d_stones : He.DefD := ⟨("stones", none), "stones", "stones", defArgs s_stones, defBody s_stones, defScope s_stones, [], []⟩
def d_all_spots : He.DefD := ⟨("all_spots", none), "all_spots", "all_spots", defArgs s_all_spots, defBody s_all_spots, defScope s_all_spots, [], []⟩
def d_helps : He.DefD := ⟨("helps", none), "helps", "helps", defArgs s_helps, defBody s_helps, defScope s_helps, [], [("reach", .int 1)]⟩
def d__law_cell : He.DefD := ⟨("_law_cell", none), "_law_cell", "_law_cell", defArgs s__law_cell, defBody s__law_cell, defScope s__law_cell, [], []⟩
def d__law_purse : He.DefD := ⟨("_law_purse", none), "_law_purse", "_law_purse", defArgs s__law_purse, defBody s__law_purse, defScope s__law_purse, [], []⟩
def d__law_pick : He.DefD := ⟨("_law_pick", none), "_law_pick", "_law_pick", defArgs s__law_pick, defBody s__law_pick, defScope s__law_pick, [], []⟩
def d__law_wood : He.DefD := ⟨("_law_wood", none), "_law_wood", "_law_wood", defArgs s__law_wood, defBody s__law_wood, defScope s__law_wood, [], []⟩
def d__law_gaps : He.DefD := ⟨("_law_gaps", none), "_law_gaps", "_law_gaps", defArgs s__law_gaps, defBody s__law_gaps, defScope s__law_gaps, [], []⟩
def d__law_way_of : He.DefD := ⟨("_law_way_of", none), "_law_way_of", "_law_way_of", defArgs s__law_way_of, defBody s__law_way_of, defScope s__law_way_of, [], []⟩
def d__law_limb_by : He.DefD := ⟨("_law_limb_by", none), "_law_limb_by", "_law_limb_by", defArgs s__law_limb_by, defBody s__law_limb_by, defScope s__law_limb_by, [], []⟩
def d__law_piece : He.DefD := ⟨("_law_piece", none), "_law_piece", "_law_piece", defArgs s__law_piece, defBody s__law_piece, defScope s__law_piece, [], []⟩
def d__law_point : He.DefD := ⟨("_law_point", none), "_law_point", "_law_point", defArgs s__law_point, defBody s__law_point, defScope s__law_point, [], []⟩
def d__law_all_points : He.DefD := ⟨("_law_all_points", none), "_law_all_points", "_law_all_points", defArgs s__law_all_points, defBody s__law_all_points, defScope s__law_all_points, [], []⟩
def d__law_bring : He.DefD := ⟨("_law_bring", none), "_law_bring", "_law_bring", defArgs s__law_bring, defBody s__law_bring, defScope s__law_bring, [], []⟩
def d__law_no_fewer : He.DefD := ⟨("_law_no_fewer", none), "_law_no_fewer", "_law_no_fewer", defArgs s__law_no_fewer, defBody s__law_no_fewer, defScope s__law_no_fewer, [], []⟩
def d__law_helps_right : He.DefD := ⟨("_law_helps_right", none), "_law_helps_right", "_law_helps_right", defArgs s__law_helps_right, defBody s__law_helps_right, defScope s__law_helps_right, [], []⟩
def d__law_right : He.DefD := ⟨("_law_right", none), "_law_right", "_law_right", defArgs s__law_right, defBody s__law_right, defScope s__law_right, [], []⟩
def d_law : He.DefD := ⟨("law", none), "law", "law", defArgs s_law, defBody s_law, defScope s_law, [], []⟩
def d_W_init : He.DefD := ⟨("World", some "__init__"), "__init__", "World.__init__", defArgs s_W_init, defBody s_W_init, defScope s_W_init, [], []⟩
def d_W_sizes : He.DefD := ⟨("World", some "sizes"), "sizes", "World.sizes", defArgs s_W_sizes, defBody s_W_sizes, defScope s_W_sizes, [], []⟩
theorem c_is_whole : FnScope ["thing"] ["thing"] (defScope s_is_whole) := ⟨rfl, rfl, rfl, by decide +kernel, rfl, by decide +kernel, by decide +kernel⟩
theorem c_is_within : FnScope ["thing", "low", "high"] ["thing", "low", "high"] (defScope s_is_within) := ⟨rfl, rfl, rfl, by decide +kernel, rfl, by decide +kernel, by decide +kernel⟩
theorem c_is_tree : FnScope ["thing", "number", "below"] ["thing"] (defScope s_is_tree) := ⟨rfl, rfl, rfl, by decide +kernel, rfl, by decide +kernel, by decide +kernel⟩
theorem c_check_tree : FnScope ["thing"] ["thing"] (defScope s_check_tree) := ⟨rfl, rfl, rfl, by decide +kernel, rfl, by decide +kernel, by decide +kernel⟩
theorem c_check_place : FnScope ["tree", "thing"] ["tree", "thing"] (defScope s_check_place) := ⟨rfl, rfl, rfl, by decide +kernel, rfl, by decide +kernel, by decide +kernel⟩
theorem c_downward : FnScope ["tree", "place", "found"] ["tree", "place"] (defScope s_downward) := ⟨rfl, rfl, rfl, by decide +kernel, rfl, by decide +kernel, by decide +kernel⟩
theorem c_steps_between : FnScope ["tree", "one", "other", "ahead", "behind", "meet", "place"] ["tree", "one", "other"] (defScope s_steps_between) := ⟨rfl, rfl, rfl, by decide +kernel, rfl, by decide +kernel, by decide +kernel⟩
theorem c_way : FnScope ["tree", "one", "other"] ["tree", "one", "other"] (defScope s_way) := ⟨rfl, rfl, rfl, by decide +kernel, rfl, by decide +kernel, by decide +kernel⟩
theorem c_gaps : FnScope ["tree", "numbers", "other", "one"] ["tree"] (defScope s_gaps) := ⟨rfl, rfl, rfl, by decide +kernel, rfl, by decide +kernel, by decide +kernel⟩
theorem c_hangs_together : FnScope ["tree", "thing", "place", "first", "others"] ["tree", "thing"] (defScope s_hangs_together) := ⟨rfl, rfl, rfl, by decide +kernel, rfl, by decide +kernel, by decide +kernel⟩
theorem c_branch_around : FnScope ["tree", "some", "first", "others", "place", "step"] ["tree", "some"] (defScope s_branch_around) := ⟨rfl, rfl, rfl, by decide +kernel, rfl, by decide +kernel, by decide +kernel⟩
theorem c_least_gap : FnScope ["rows", "one", "other", "here", "there"] ["rows", "one", "other"] (defScope s_least_gap) := ⟨rfl, rfl, rfl, by decide +kernel, rfl, by decide +kernel, by decide +kernel⟩
theorem c_check_world : FnScope ["thing"] ["thing"] (defScope s_check_world) := ⟨rfl, rfl, rfl, by decide +kernel, rfl, by decide +kernel, by decide +kernel⟩
theorem c_makes_part : FnScope ["world", "thing", "tree", "branch"] ["world", "thing"] (defScope s_makes_part) := ⟨rfl, rfl, rfl, by decide +kernel, rfl, by decide +kernel, by decide +kernel⟩
theorem c_makes_spot : FnScope ["world", "thing", "tree", "place"] ["world", "thing"] (defScope s_makes_spot) := ⟨rfl, rfl, rfl, by decide +kernel, rfl, by decide +kernel, by decide +kernel⟩
theorem c_check_part : FnScope ["world", "thing"] ["world", "thing"] (defScope s_check_part) := ⟨rfl, rfl, rfl, by decide +kernel, rfl, by decide +kernel, by decide +kernel⟩
theorem c_check_spot : FnScope ["world", "thing"] ["world", "thing"] (defScope s_check_spot) := ⟨rfl, rfl, rfl, by decide +kernel, rfl, by decide +kernel, by decide +kernel⟩
theorem c_check_two : FnScope ["world", "one", "other"] ["world", "one", "other"] (defScope s_check_two) := ⟨rfl, rfl, rfl, by decide +kernel, rfl, by decide +kernel, by decide +kernel⟩
theorem c_is_part : FnScope ["world", "thing"] ["world", "thing"] (defScope s_is_part) := ⟨rfl, rfl, rfl, by decide +kernel, rfl, by decide +kernel, by decide +kernel⟩
theorem c_as_part : FnScope ["world", "spot", "place"] ["world", "spot"] (defScope s_as_part) := ⟨rfl, rfl, rfl, by decide +kernel, rfl, by decide +kernel, by decide +kernel⟩
theorem c_part_in : FnScope ["one", "other", "here", "there", "place"] ["one", "other"] (defScope s_part_in) := ⟨rfl, rfl, rfl, by decide +kernel, rfl, by decide +kernel, by decide +kernel⟩
theorem c_part_far : FnScope ["world", "one", "other", "many", "rows", "here", "there"] ["world", "one", "other"] (defScope s_part_far) := ⟨rfl, rfl, rfl, by decide +kernel, rfl, by decide +kernel, by decide +kernel⟩
theorem c_part_hull : FnScope ["world", "one", "other", "found", "tree", "here", "there"] ["world", "one", "other"] (defScope s_part_hull) := ⟨rfl, rfl, rfl, by decide +kernel, rfl, by decide +kernel, by decide +kernel⟩
theorem c_nearest : FnScope ["world", "one", "other", "found", "rows", "here", "there", "step"] ["world", "one", "other"] (defScope s_nearest) := ⟨rfl, rfl, rfl, by decide +kernel, rfl, by decide +kernel, by decide +kernel⟩
theorem c_is_name : FnScope ["thing", "sign"] ["thing"] (defScope s_is_name) := ⟨rfl, rfl, rfl, by decide +kernel, rfl, by decide +kernel, by decide +kernel⟩
theorem c_first_wrong : FnScope ["world", "rows", "names", "number", "row", "name", "part"] ["world", "rows"] (defScope s_first_wrong) := ⟨rfl, rfl, rfl, by decide +kernel, rfl, by decide +kernel, by decide +kernel⟩
theorem c_check_book : FnScope ["world", "thing", "wrong"] ["world", "thing"] (defScope s_check_book) := ⟨rfl, rfl, rfl, by decide +kernel, rfl, by decide +kernel, by decide +kernel⟩
theorem c_part_of : FnScope ["book", "name", "found", "own", "part"] ["book", "name"] (defScope s_part_of) := ⟨rfl, rfl, rfl, by decide +kernel, rfl, by decide +kernel, by decide +kernel⟩
theorem c_check_reach : FnScope ["thing"] ["thing"] (defScope s_check_reach) := ⟨rfl, rfl, rfl, by decide +kernel, rfl, by decide +kernel, by decide +kernel⟩
theorem c_closed : FnScope ["world", "parts", "reach", "waiting", "found", "part", "near", "other"] ["world", "parts", "reach"] (defScope s_closed) := ⟨rfl, rfl, rfl, by decide +kernel, rfl, by decide +kernel, by decide +kernel⟩
theorem c_together : FnScope ["world", "book", "one", "other", "reach", "both", "name", "kin", "own", "part"] ["world", "book", "one", "other", "reach"] (defScope s_together) := ⟨rfl, rfl, rfl, by decide +kernel, rfl, by decide +kernel, by decide +kernel⟩
theorem c_walked : FnScope ["world", "one", "other", "here", "there", "now", "found", "number", "tree", "first", "steps", "place"] ["world", "one", "other"] (defScope s_walked) := ⟨rfl, rfl, rfl, by decide +kernel, rfl, by decide +kernel, by decide +kernel⟩
theorem c_stones_for : FnScope ["world", "one", "other", "reach", "first", "spots"] ["world", "one", "other", "reach"] (defScope s_stones_for) := ⟨rfl, rfl, rfl, by decide +kernel, rfl, by decide +kernel, by decide +kernel⟩
theorem c_stones : FnScope ["world", "one", "other", "reach"] ["world", "one", "other", "reach"] (defScope s_stones) := ⟨rfl, rfl, rfl, by decide +kernel, rfl, by decide +kernel, by decide +kernel⟩
theorem c_all_spots : FnScope ["world", "many", "size", "rows", "row", "place"] ["world"] (defScope s_all_spots) := ⟨rfl, rfl, rfl, by decide +kernel, rfl, by decide +kernel, by decide +kernel⟩
theorem c_helps : FnScope ["world", "book", "one", "other", "reach", "ends", "name", "kin", "found", "part", "spot", "stood", "place", "end"] ["world", "book", "one", "other", "reach"] (defScope s_helps) := ⟨rfl, rfl, rfl, by decide +kernel, rfl, by decide +kernel, by decide +kernel⟩
theorem c__law_cell : FnScope ["_law_script", "_law_k", "_law_state", "_law_cell_here"] ["_law_script", "_law_k"] (defScope s__law_cell) := ⟨rfl, rfl, rfl, by decide +kernel, rfl, by decide +kernel, by decide +kernel⟩
theorem c__law_purse : FnScope ["_law_cell_here"] ["_law_cell_here"] (defScope s__law_purse) := ⟨rfl, rfl, rfl, by decide +kernel, rfl, by decide +kernel, by decide +kernel⟩
theorem c__law_pick : FnScope ["_law_purse_here", "_law_count", "_law_state", "_law_taken"] ["_law_purse_here", "_law_count"] (defScope s__law_pick) := ⟨rfl, rfl, rfl, by decide +kernel, rfl, by decide +kernel, by decide +kernel⟩
theorem c__law_wood : FnScope ["_law_purse_here", "_law_most", "_law_shape", "_law_count", "_law_k"] ["_law_purse_here", "_law_most"] (defScope s__law_wood) := ⟨rfl, rfl, rfl, by decide +kernel, rfl, by decide +kernel, by decide +kernel⟩
theorem c__law_gaps : FnScope ["_law_wood_here", "_law_found", "_law_up", "_law_last", "_law_gap", "_law_row"] ["_law_wood_here"] (defScope s__law_gaps) := ⟨rfl, rfl, rfl, by decide +kernel, rfl, by decide +kernel, by decide +kernel⟩
theorem c__law_way_of : FnScope ["_law_rows", "_law_first", "_law_last", "_law_stop"] ["_law_rows", "_law_first", "_law_last"] (defScope s__law_way_of) := ⟨rfl, rfl, rfl, by decide +kernel, rfl, by decide +kernel, by decide +kernel⟩
theorem c__law_limb_by : FnScope ["_law_rows", "_law_some", "_law_found", "_law_last"] ["_law_rows", "_law_some"] (defScope s__law_limb_by) := ⟨rfl, rfl, rfl, by decide +kernel, rfl, by decide +kernel, by decide +kernel⟩
theorem c__law_piece : FnScope ["_law_purse_here", "_law_grove", "_law_found", "_law_wood_here", "_law_some", "_law_k"] ["_law_purse_here", "_law_grove"] (defScope s__law_piece) := ⟨rfl, rfl, rfl, by decide +kernel, rfl, by decide +kernel, by decide +kernel⟩
theorem c__law_point : FnScope ["_law_purse_here", "_law_grove", "_law_wood_here"] ["_law_purse_here", "_law_grove"] (defScope s__law_point) := ⟨rfl, rfl, rfl, by decide +kernel, rfl, by decide +kernel, by decide +kernel⟩
theorem c__law_all_points : FnScope ["_law_grove", "_law_found", "_law_wood_here", "_law_stop", "_law_row_here"] ["_law_grove"] (defScope s__law_all_points) := ⟨rfl, rfl, rfl, by decide +kernel, rfl, by decide +kernel, by decide +kernel⟩
theorem c__law_bring : FnScope ["_law_land", "_law_low", "_law_high", "_law_points", "_law_wide", "_law_signs", "_law_roll", "_law_sign", "_law_point_here"] ["_law_land", "_law_low", "_law_high", "_law_points", "_law_wide"] (defScope s__law_bring) := ⟨rfl, rfl, rfl, by decide +kernel, rfl, by decide +kernel, by decide +kernel⟩
theorem c__law_no_fewer : FnScope ["_law_purse_here", "_law_land", "_law_grove", "_law_low", "_law_high", "_law_wide", "_law_count", "_law_every", "_law_point_here", "_law_k", "_law_turn", "_law_lot"] ["_law_purse_here", "_law_land", "_law_grove", "_law_low", "_law_high", "_law_wide", "_law_count"] (defScope s__law_no_fewer) := ⟨rfl, rfl, rfl, by decide +kernel, rfl, by decide +kernel, by decide +kernel⟩
theorem c__law_helps_right : FnScope ["_law_land", "_law_grove", "_law_low", "_law_high", "_law_wide", "_law_told", "_law_found"] ["_law_land", "_law_grove", "_law_low", "_law_high", "_law_wide", "_law_told"] (defScope s__law_helps_right) := ⟨rfl, rfl, rfl, by decide +kernel, rfl, by decide +kernel, by decide +kernel⟩
theorem c__law_right : FnScope ["_law_purse_here", "_law_land", "_law_grove", "_law_low", "_law_high", "_law_wide", "_law_told", "_law_later", "_law_k", "_law_fewest", "_law_turned"] ["_law_purse_here", "_law_land", "_law_grove", "_law_low", "_law_high", "_law_wide"] (defScope s__law_right) := ⟨rfl, rfl, rfl, by decide +kernel, rfl, by decide +kernel, by decide +kernel⟩
theorem c_law : FnScope ["_law_script", "_law_k", "_law_purse_here", "_law_grove", "_law_first", "_law_land", "_law_low", "_law_high", "_law_wide"] ["_law_script"] (defScope s_law) := ⟨rfl, rfl, rfl, by decide +kernel, rfl, by decide +kernel, by decide +kernel⟩
theorem c_W_init : FnScope ["self", "trees", "number", "tree"] ["self", "trees"] (defScope s_W_init) := ⟨rfl, rfl, rfl, by decide +kernel, rfl, by decide +kernel, by decide +kernel⟩
theorem c_W_sizes : FnScope ["self", "tree"] ["self"] (defScope s_W_sizes) := ⟨rfl, rfl, rfl, by decide +kernel, rfl, by decide +kernel, by decide +kernel⟩
def fn : List He.DefD := [d_is_whole, d_is_within, d_is_tree, d_check_tree, d_check_place, d_downward, d_steps_between, d_way, d_gaps, d_hangs_together, d_branch_around, d_least_gap, d_check_world, d_makes_part, d_makes_spot, d_check_part, d_check_spot, d_check_two, d_is_part, d_as_part, d_part_in, d_part_far, d_part_hull, d_nearest, d_is_name, d_first_wrong, d_check_book, d_part_of, d_check_reach, d_closed, d_together, d_walked, d_stones_for, d_stones, d_all_spots, d_helps, d__law_cell, d__law_purse, d__law_pick, d__law_wood, d__law_gaps, d__law_way_of, d__law_limb_by, d__law_piece, d__law_point, d__law_all_points, d__law_bring, d__law_no_fewer, d__law_helps_right, d__law_right, d_law, d_W_init, d_W_sizes]
def fa : List He.Fa := [.glo "is_whole", .glo "is_within", .glo "is_tree", .glo "check_tree", .glo "check_place", .glo "downward", .glo "steps_between", .glo "way", .glo "gaps", .glo "hangs_together", .glo "branch_around", .glo "least_gap", .glo "check_world", .glo "makes_part", .glo "makes_spot", .glo "check_part", .glo "check_spot", .glo "check_two", .glo "is_part", .glo "as_part", .glo "part_in", .glo "part_far", .glo "part_hull", .glo "nearest", .glo "is_name", .glo "first_wrong", .glo "check_book", .glo "part_of", .glo "check_reach", .glo "closed", .glo "together", .glo "walked", .glo "stones_for", .glo "stones", .glo "all_spots", .glo "helps", .glo "_law_cell", .glo "_law_purse", .glo "_law_pick", .glo "_law_wood", .glo "_law_gaps", .glo "_law_way_of", .glo "_law_limb_by", .glo "_law_piece", .glo "_law_point", .glo "_law_all_points", .glo "_law_bring", .glo "_law_no_fewer", .glo "_law_helps_right", .glo "_law_right", .glo "law", .glo "World", .cls "World", .mkr "World", .meth "World" "sizes", .noat "World" "trees", .noat "World" "tables", .keep "World", .int "REACH" 1, .int "MOST_REACH" 48, .int "MOST_SPOTS" 400, .int "MOST_PLACES" 12, .int "MOST_TREES" 4, .int "MOST_NAMES" 24, .int "MOST_SIGNS" 8, .str "SIGNS" "abcdefghijklmnopqrstuvwxyz", .free "isinstance", .free "len", .free "all", .free "any", .free "enumerate", .free "zip", .free "list", .free "range", .free "tuple", .free "sorted", .free "set", .free "min", .free "max", .free "sum", .free "int", .free "bool", .free "str"]
end Jr
set_option Elab.async false
set_option linter.all false
set_option maxRecDepth 100000
set_option maxHeartbeats 4000000
/-! Typed readings of data, and comprehensions and loops over them. -/
namespace Jr
open PySem PySem.Spec PyProof.Rows L2
abbrev FnP (K : PySem.W.Frag) (x : Str) (st : Stmt) (f : Addr) (fd : FuncData) : Prop := FunD K x x (defArgs st) (defBody st) (defScope st) [] [] f fd
/-! ### heaps -/
/-- tuples stay -/
def Kt (H H' : Hp) : Prop := ∀ a xs, H a = some (.tup xs) → H' a = some (.tup xs)
theorem Kt.refl (H : Hp) : Kt H H := fun _ _ h => h
theorem Kt.trans {H H1 H2 : Hp} (a : Kt H H1) (b : Kt H1 H2) : Kt H H2 := fun c o h => b c o (a c o h)
theorem kt {H H' : Hp} (s : Same H H') : Kt H H' := fun a _ h => s a _ h
theorem kt_new {H : Hp} {p : Addr} {o : HO} (h : H p = none) : Kt H (upd H p o) := fun a xs e => by rw [upd_ne (ne_of_none e h)]; exact e
theorem kt_lst {H : Hp} {p : Addr} {ys : List V} {o : HO} (h : H p = some (.lst ys)) : Kt H (upd H p o) := fun a xs e => by
  rw [upd_ne (ne_of e h (fun z => by cases z))]; exact e
theorem sm_new {H : Hp} {p : Addr} {o : HO} (h : H p = none) : Same H (upd H p o) := fun a u e => by rw [upd_ne (ne_of_none e h)]; exact e
/-- an object that H does not know changes -/
theorem sm_mut {H H' : Hp} {p : Addr} {o : HO} (e : Same H H') (h : H p = none) : Same H (upd H' p o) := fun a u ha => by
  rw [upd_ne (ne_of_none ha h)]; exact e a u ha
theorem ne_new {H : Hp} {p q : Addr} (h : H p ≠ none) (h' : H q = none) : p ≠ q := fun e => h (e ▸ h')
/-- the list at D has changed, all else stays -/
def Ud (D : Addr) (H H' : Hp) : Prop := (∃ acc, H D = some (.lst acc)) ∧ ∀ c o, c ≠ D → H c = some o → H' c = some o
theorem Ud.kt {D : Addr} {H H' : Hp} (u : Ud D H H') : Kt H H' := fun a xs e => by
  obtain ⟨⟨acc, h⟩, k⟩ := u
  exact k a _ (ne_of e h (fun z => by cases z)) e
theorem Ud.of {D : Addr} {H : Hp} {acc : List V} {o : HO} (h : H D = some (.lst acc)) : Ud D H (upd H D o) := ⟨⟨acc, h⟩, fun c u hc e => by rw [upd_ne hc]; exact e⟩
theorem Ud.same {D : Addr} {H H' : Hp} {acc : List V} (s : Same H H') (h : H D = some (.lst acc)) : Ud D H H' := ⟨⟨acc, h⟩, fun c u _ e => s c u e⟩
/-! ### typed readings -/
abbrev Rp (α : Type) : Type := Hp → V → α → Prop
def Stb {α : Type} (R : Rp α) : Prop := ∀ H H' v a, Kt H H' → R H v a → R H' v a
/-- a reading that stands while the list at D grows -/
def StD {α : Type} (R : Addr → Rp α) : Prop := ∀ D H H' v a, Ud D H H' → R D H v a → R D H' v a
theorem Stb.d {α : Type} {R : Rp α} (h : Stb R) : StD (fun _ => R) := fun D H H' v a u r => h H H' v a u.kt r
def NatR : Rp Nat := fun _ v n => v = .int (n : Int)
def IntR : Rp Int := fun _ v n => v = .int n
def StrR : Rp Str := fun _ v z => v = .str z
def BlR : Rp Bool := fun _ v b => v = .bl b
def TupOf {α : Type} (R : Rp α) : Rp (List α) := fun H v as => ∃ a xs, v = .ref a ∧ H a = some (.tup xs) ∧ Paired (R H) xs as
def PairR {α β : Type} (R : Rp α) (S : Rp β) : Rp (α × β) := fun H v p => ∃ a x y, v = .ref a ∧ H a = some (.tup [x, y]) ∧ R H x p.1 ∧ S H y p.2
/-- a list as it stands -/
def LstOf {α : Type} (R : Rp α) : Rp (List α) := fun H v as => ∃ a xs, v = .ref a ∧ H a = some (.lst xs) ∧ Paired (R H) xs as
theorem stb_nat : Stb NatR := fun _ _ _ _ _ h => h
theorem stb_int : Stb IntR := fun _ _ _ _ _ h => h
theorem stb_str : Stb StrR := fun _ _ _ _ _ h => h
theorem stb_bl : Stb BlR := fun _ _ _ _ _ h => h
theorem stb_pairs {α : Type} {R : Rp α} (h : Stb R) {H H' : Hp} (k : Kt H H') {xs : List V} {as : List α} (p : Paired (R H) xs as) : Paired (R H') xs as := Paired.mono (fun x a r => h H H' x a k r) p
theorem stb_tup {α : Type} {R : Rp α} (h : Stb R) : Stb (TupOf R) := fun H H' v as k r => by
  obtain ⟨a, xs, e, ha, p⟩ := r
  exact ⟨a, xs, e, k a xs ha, stb_pairs h k p⟩
theorem stb_pair {α β : Type} {R : Rp α} {S : Rp β} (h : Stb R) (h' : Stb S) : Stb (PairR R S) := fun H H' v p k r => by
  obtain ⟨a, x, y, e, ha, r1, r2⟩ := r
  exact ⟨a, x, y, e, k a _ ha, h H H' x _ k r1, h' H H' y _ k r2⟩
theorem LstOf.same {α : Type} {R : Rp α} (h : Stb R) {H H' : Hp} {v : V} {as : List α} (s : Same H H') (r : LstOf R H v as) : LstOf R H' v as := by
  obtain ⟨a, xs, e, ha, p⟩ := r
  exact ⟨a, xs, e, s a _ ha, stb_pairs h (kt s) p⟩
abbrev NatsT : Rp (List Nat) := TupOf NatR
abbrev PartT : Rp (List (List Nat)) := TupOf NatsT
abbrev RowT : Rp (Str × List (List Nat)) := PairR StrR PartT
theorem stb_nats : Stb NatsT := stb_tup stb_nat
theorem stb_part : Stb PartT := stb_tup stb_nats
theorem stb_row : Stb RowT := stb_pair stb_str stb_part
/-! ### pairings -/
section
variable {α β γ : Type} {F : α → β → Prop}
theorem pd_get : ∀ {xs : List α} {ys : List β} {i : Nat} {x : α}, Paired F xs ys → xs[i]? = some x → ∃ y, ys[i]? = some y ∧ F x y
  | _, _, _, _, .nil, e => by simp at e
  | _, _, 0, _, .cons r _, e => by simp at e; subst e; exact ⟨_, rfl, r⟩
  | _, _, i + 1, x, .cons _ t, e => by
    obtain ⟨u, h1, h2⟩ := pd_get (i := i) (x := x) t (by simpa using e)
    exact ⟨u, by simpa using h1, h2⟩
theorem pd_getr : ∀ {xs : List α} {ys : List β} {i : Nat} {y : β}, Paired F xs ys → ys[i]? = some y → ∃ x, xs[i]? = some x ∧ F x y
  | _, _, _, _, .nil, e => by simp at e
  | _, _, 0, _, .cons r _, e => by simp at e; subst e; exact ⟨_, rfl, r⟩
  | _, _, i + 1, x, .cons _ t, e => by
    obtain ⟨u, h1, h2⟩ := pd_getr (i := i) (y := x) t (by simpa using e)
    exact ⟨u, by simpa using h1, h2⟩
theorem pd_app : ∀ {xs xs' : List α} {ys ys' : List β}, Paired F xs ys → Paired F xs' ys' → Paired F (xs ++ xs') (ys ++ ys')
  | _, _, _, _, .nil, s => s
  | _, _, _, _, .cons r t, s => .cons r (pd_app t s)
theorem pd_take : ∀ {xs : List α} {ys : List β} (n : Nat), Paired F xs ys → Paired F (xs.take n) (ys.take n)
  | _, _, 0, _ => by simp only [List.take_zero]; exact .nil
  | _, _, _ + 1, .nil => .nil
  | _, _, n + 1, .cons r t => .cons r (pd_take n t)
theorem pd_drop : ∀ {xs : List α} {ys : List β} (n : Nat), Paired F xs ys → Paired F (xs.drop n) (ys.drop n)
  | _, _, 0, r => r
  | _, _, _ + 1, .nil => .nil
  | _, _, n + 1, .cons _ t => pd_drop n t
theorem pd_len {xs : List α} {ys : List β} (h : Paired F xs ys) : xs.length = ys.length := Paired.length h
theorem pd_map {f : β → α} (h : ∀ b, F (f b) b) : ∀ bs : List β, Paired F (bs.map f) bs
  | [] => .nil
  | b :: r => .cons (h b) (pd_map h r)
theorem pd_of_map {f : β → α} (h : ∀ a b, F a b → a = f b) : ∀ {as : List α} {bs : List β}, Paired F as bs → as = bs.map f
  | _, _, .nil => rfl
  | _, _, .cons r t => by rw [h _ _ r, pd_of_map h t]; rfl
theorem pd_rev : ∀ {xs : List α} {ys : List β}, Paired F xs ys → Paired F xs.reverse ys.reverse
  | _, _, .nil => .nil
  | _, _, .cons r t => by rw [List.reverse_cons, List.reverse_cons]; exact pd_app (pd_rev t) (.cons r .nil)
end
theorem nats_map {H : Hp} {xs : List V} {ns : List Nat} (p : Paired (NatR H) xs ns) : xs = ns.map fun n : Nat => V.int (n : Int) := pd_of_map (fun _ _ r => r) p
theorem bls_map {H : Hp} {xs : List V} {bs : List Bool} (p : Paired (BlR H) xs bs) : xs = bs.map V.bl := pd_of_map (fun _ _ r => r) p
theorem ints_map {H : Hp} {xs : List V} {bs : List Int} (p : Paired (IntR H) xs bs) : xs = bs.map V.int := pd_of_map (fun _ _ r => r) p
theorem nats_of {H : Hp} (ns : List Nat) : Paired (NatR H) (ns.map fun n : Nat => V.int (n : Int)) ns := pd_map (F := NatR H) (f := fun n : Nat => V.int (n : Int)) (fun _ => rfl) ns
theorem nats_ints (ns : List Nat) : (ns.map fun n : Nat => V.int (n : Int)) = (ns.map fun n : Nat => (n : Int)).map V.int := by rw [List.map_map]; rfl
/-! ### a list comprehension that only looks -/
theorem take_snoc {α : Type} {as : List α} {i : Nat} {a : α} (h : as[i]? = some a) : as.take (i + 1) = as.take i ++ [a] := by rw [List.take_add_one, h]; rfl
theorem get_lt {α : Type} {as : List α} {i : Nat} (h : i < as.length) : ∃ a, as[i]? = some a := ⟨as[i], List.getElem?_eq_getElem h⟩
section
variable {J : It} {n : Nat} {G : Hp → Prop} {Y : Nat → Hp → V → Hp → Prop} {g : TG} {tt : TT} {te : TE} {vs : List Nat} {σ : L2.St} {H1 : Hp} {Q : VK}
/-- what a comprehension asks behind its source: with a test, without -/
def LcF (J : It) (g : TG) (tt : TT) (te : TE) (vs : List Nat) (σ : L2.St) (H1 : Hp) (Q : VK) : Prop := ∀ D, H1 D = none → ∃ W : Nat → Nat → Hp → Prop, (∃ m, W 0 m (upd H1 D (.lst []))) ∧ ∀ i m H, W i m H →
  (J.stop i H ∧ Q (.ref D) H) ∨ (J.go i H ∧ ∃ Nx : Hp → Prop, (∀ H', Nx H' → ∃ m', m' < m ∧ W (i + 1) m' H') ∧ ∀ x H', J.yld i H x H' → g x (wipe σ vs) H' fun σ2 H2 => wipe σ2 vs = wipe σ vs ∧ tt σ2 H2 fun b H3 =>
    if b = true then te σ2 H3 fun y H4 => ∃ acc, H4 D = some (.lst acc) ∧ acc.length < sizeLine ∧ Nx (upd H4 D (.lst (acc ++ [y]))) else Nx H3)
def LcG (J : It) (g : TG) (te : TE) (vs : List Nat) (σ : L2.St) (H1 : Hp) (Q : VK) : Prop := LcF J g tYes te vs σ H1 Q
def tLf (wi : TI) (g : TG) (tt : TT) (te : TE) (vs : List Nat) : TE := fun σ H Q => wi σ H fun J H1 => LcF J g tt te vs σ H1 Q
def tLm (wi : TI) (g : TG) (te : TE) (vs : List Nat) : TE := fun σ H Q => wi σ H fun J H1 => LcG J g te vs σ H1 Q
/-- what a comprehension's reading asks behind its source, with a test -/
theorem lc_sel {α β : Type} (w : Walk J n G Y) (as : List α) (hn : n = as.length) (hsz : as.length ≤ 100000) {RO : Addr → Rp β} (st : StD RO) (p : α → Bool) (f : α → β)
    (hG : ∀ H, Same H1 H → G H)
    (turn : ∀ (D : Addr) (i : Nat) (a : α) (x : V) (H H' : Hp) (Kn : V → Hp → Prop) (Ks : Hp → Prop), H1 D = none → (∃ acc, H D = some (.lst acc)) → as[i]? = some a → Same H1 H → Y i H x H' →
      (p a = true → ∀ y H4, Same H H4 → RO D H4 y (f a) → Kn y H4) → (p a = false → ∀ H3, Same H H3 → Ks H3) →
      g x (wipe σ vs) H' fun σ2 H2 => wipe σ2 vs = wipe σ vs ∧ tt σ2 H2 fun b H3 => if b = true then te σ2 H3 Kn else Ks H3)
    (k : ∀ D ys H2, H1 D = none → Same H1 H2 → H2 D = some (.lst ys) → Paired (RO D H2) ys ((as.filter p).map f) → Q (.ref D) H2) : LcF J g tt te vs σ H1 Q := by
  intro D hD
  subst hn
  refine lc_it w (fun i H => Same H1 H ∧ ∃ acc, H D = some (.lst acc) ∧ Paired (RO D H) acc (((as.take i).filter p).map f)) ⟨sm_new hD, [], upd_same, .nil⟩ (fun i H _ h => hG H h.1) ?_ ?_
  · rintro i x H H' hi ⟨sm, acc, hacc, pd⟩ hy
    obtain ⟨a, ha⟩ := get_lt hi
    have hlen : acc.length ≤ as.length := by
      rw [pd_len pd, List.length_map]
      exact Nat.le_trans (List.length_filter_le _ _) (by rw [List.length_take]; omega)
    refine turn D i a x H H' _ _ hD ⟨acc, hacc⟩ ha sm hy (fun hp y H4 s4 r4 => ?_) (fun hp H3 s3 => ?_)
    · refine ⟨acc, s4 _ _ hacc, Nat.lt_of_le_of_lt (Nat.le_trans hlen hsz) (by decide), sm_mut (sm.trans s4) hD, _, upd_same, ?_⟩
      have u : Ud D H4 (upd H4 D (.lst (acc ++ [y]))) := Ud.of (s4 _ _ hacc)
      rw [take_snoc ha, List.filter_append, List.map_append]
      have e1 : List.filter p [a] = [a] := by simp [hp]
      rw [e1]
      exact pd_app (Paired.mono (fun v b r => st D H4 _ v b u (st D H H4 v b (Ud.same s4 hacc) r)) pd) (.cons (st D H4 _ y _ u r4) .nil)
    · refine ⟨sm.trans s3, acc, s3 _ _ hacc, ?_⟩
      rw [take_snoc ha, List.filter_append]
      have e1 : List.filter p [a] = [] := by simp [hp]
      rw [e1, List.append_nil]
      exact Paired.mono (fun v b r => st D H _ v b (Ud.same s3 hacc) r) pd
  · rintro H ⟨sm, acc, hacc, pd⟩
    rw [List.take_length] at pd
    exact k D acc H hD sm hacc pd
/-- .. without a test -/
theorem lc_map {α β : Type} (w : Walk J n G Y) (as : List α) (hn : n = as.length) (hsz : as.length ≤ 100000) {RO : Addr → Rp β} (st : StD RO) (f : α → β)
    (hG : ∀ H, Same H1 H → G H)
    (turn : ∀ (D : Addr) (i : Nat) (a : α) (x : V) (H H' : Hp) (Kn : V → Hp → Prop), H1 D = none → (∃ acc, H D = some (.lst acc)) → as[i]? = some a → Same H1 H → Y i H x H' →
      (∀ y H4, Same H H4 → RO D H4 y (f a) → Kn y H4) → g x (wipe σ vs) H' fun σ2 H2 => wipe σ2 vs = wipe σ vs ∧ te σ2 H2 Kn)
    (k : ∀ D ys H2, H1 D = none → Same H1 H2 → H2 D = some (.lst ys) → Paired (RO D H2) ys (as.map f) → Q (.ref D) H2) : LcG J g te vs σ H1 Q := by
  refine lc_sel w as hn hsz st (fun _ => true) f hG (fun D i a x H H' Kn Ks hD hacc ha sm hy kn _ => turn D i a x H H' Kn hD hacc ha sm hy (kn rfl)) (fun D ys H2 hD sm h2 pd => k D ys H2 hD sm h2 ?_)
  have e : as.filter (fun _ => true) = as := List.filter_eq_self.mpr fun _ _ => rfl
  rw [e] at pd
  exact pd
end
/-! ### the sources, by typed readings -/
section
variable {K : PySem.W.Frag} {te : TE} {tt : TT} {vs : List Nat} {σ : L2.St} {H1 : Hp} {Q : VK} {g : TG}
/-- a tuple of things walked by one name -/
theorem lc_tupP {α β : Type} {R : Rp α} {RO : Addr → Rp β} (sR : Stb R) (st : StD RO) {a : Addr} {xs : List V} {as : List α} (ha : H1 a = some (.tup xs)) (pd : Paired (R H1) xs as) (hsz : as.length ≤ 100000) (f : α → β) {i : Nat}
    (turn : ∀ (D : Addr) (b : α) (x : V) (H : Hp) (Kn : V → Hp → Prop), (∃ acc, H D = some (.lst acc)) → b ∈ as → Same H1 H → R H x b → (∀ y H4, Same H H4 → RO D H4 y (f b) → Kn y H4) →
      wipe ((wipe σ vs).set i (some x)) vs = wipe σ vs ∧ te ((wipe σ vs).set i (some x)) H Kn)
    (k : ∀ D ys H2, H1 D = none → Same H1 H2 → H2 D = some (.lst ys) → Paired (RO D H2) ys (as.map f) → Q (.ref D) H2) : LcG (Itt K a) (gName i) te vs σ H1 Q := by
  refine lc_map walk_tup as (pd_len pd) hsz st f (fun H s => SqT.of (s a _ ha)) (fun D j b x H H' Kn hD hacc hb sm hy kn => ?_) k
  obtain ⟨rfl, hx⟩ := hy
  obtain ⟨b', hb', r⟩ := pd_get pd hx
  rw [hb] at hb'
  cases hb'
  exact turn D b x H' Kn hacc (List.mem_of_getElem? hb) sm (sR _ _ _ _ (kt sm) r) kn
/-- a list of things walked by one name -/
theorem lc_lstP {α β : Type} {R : Rp α} {RO : Addr → Rp β} (sR : Stb R) (st : StD RO) {a : Addr} {xs : List V} {as : List α} (ha : H1 a = some (.lst xs)) (pd : Paired (R H1) xs as) (hsz : as.length ≤ 100000) (f : α → β) {i : Nat}
    (turn : ∀ (D : Addr) (b : α) (x : V) (H : Hp) (Kn : V → Hp → Prop), (∃ acc, H D = some (.lst acc)) → b ∈ as → Same H1 H → R H x b → (∀ y H4, Same H H4 → RO D H4 y (f b) → Kn y H4) →
      wipe ((wipe σ vs).set i (some x)) vs = wipe σ vs ∧ te ((wipe σ vs).set i (some x)) H Kn)
    (k : ∀ D ys H2, H1 D = none → Same H1 H2 → H2 D = some (.lst ys) → Paired (RO D H2) ys (as.map f) → Q (.ref D) H2) : LcG (Itl K a) (gName i) te vs σ H1 Q := by
  refine lc_map walk_list as (pd_len pd) hsz st f (fun H s => SqL.of (s a _ ha)) (fun D j b x H H' Kn hD hacc hb sm hy kn => ?_) k
  obtain ⟨rfl, hx⟩ := hy
  obtain ⟨b', hb', r⟩ := pd_get pd hx
  rw [hb] at hb'
  cases hb'
  exact turn D b x H' Kn hacc (List.mem_of_getElem? hb) sm (sR _ _ _ _ (kt sm) r) kn
end
section
variable {X : Cx} {elt tg iter : Expr} {scope : Scope} {own : List (Str × Nat)} {pos : Pos} {wi : TI} {g : TG} {te : TE}
theorem pe_lcm (hN : X.N.Nodup) (hi : PI X tg iter wi) (ok : BlkOk X.N X.env.scope scope own)
    (hg : ∀ (s : Shared) (H : Hp) (C : Addr) (cl : List (Str × Addr)) (fp : List Addr), PG (X.blk s H scope (compEnvC scope cl C X.env) fp) tg g)
    (he : ∀ (s : Shared) (H : Hp) (C : Addr) (cl : List (Str × Addr)) (fp : List Addr), PE (X.blk s H scope (compEnvC scope cl C X.env) fp) elt te) (hc : X.calm = true := by rfl) (hs : ∀ x, foldedSetIterable iter X.env x = pure x := by intro _; rfl) :
    PE X (.ListComp elt [⟨tg, iter, [], 0⟩] scope pos) (tLm wi g te (own.map (·.2))) := pe_lc (tt := tYes) hc hN hi ok hg (fun _ _ _ _ _ => pts_nil) he hs
theorem pe_lcf {c : Expr} {tt : TT} (hN : X.N.Nodup) (hi : PI X tg iter wi) (ok : BlkOk X.N X.env.scope scope own)
    (hg : ∀ (s : Shared) (H : Hp) (C : Addr) (cl : List (Str × Addr)) (fp : List Addr), PG (X.blk s H scope (compEnvC scope cl C X.env) fp) tg g)
    (ht : ∀ (s : Shared) (H : Hp) (C : Addr) (cl : List (Str × Addr)) (fp : List Addr), PT (X.blk s H scope (compEnvC scope cl C X.env) fp) c tt)
    (he : ∀ (s : Shared) (H : Hp) (C : Addr) (cl : List (Str × Addr)) (fp : List Addr), PE (X.blk s H scope (compEnvC scope cl C X.env) fp) elt te) (hc : X.calm = true := by rfl) (hs : ∀ x, foldedSetIterable iter X.env x = pure x := by intro _; rfl) :
    PE X (.ListComp elt [⟨tg, iter, [c], 0⟩] scope pos) (tLf wi g tt te (own.map (·.2))) := pe_lc (tt := tt) hc hN hi ok hg (fun s H C cl fp => pts_one (ht s H C cl fp)) he hs
/-- name = [..] on one line -/
theorem ps_lcm {i : Nat} {y : Str} {py spos : Pos} (hN : X.N.Nodup) (hy : X.N[i]? = some y) (hyl : X.env.scope.names.lookup y = some .local) (hsw : swapsWith (.ListComp elt [⟨tg, iter, [], 0⟩] scope pos) (some (.Name y py)) spos.line X.env = pure true)
    (hi : PI X tg iter wi) (ok : BlkOk X.N X.env.scope scope own)
    (hg : ∀ (s : Shared) (H : Hp) (C : Addr) (cl : List (Str × Addr)) (fp : List Addr), PG (X.blk s H scope (compEnvC scope cl C X.env) fp) tg g)
    (he : ∀ (s : Shared) (H : Hp) (C : Addr) (cl : List (Str × Addr)) (fp : List Addr), PE (X.blk s H scope (compEnvC scope cl C X.env) fp) elt te) (hc : X.calm = true := by rfl) (hs : ∀ x, foldedSetIterable iter X.env x = pure x := by intro _; rfl) :
    PS X (.Assign [.Name y py] (.ListComp elt [⟨tg, iter, [], 0⟩] scope pos) spos) (tAsg (tLm wi g te (own.map (·.2))) (gName i)) := ps_setLc (tt := tYes) hc hN hy hyl hsw hi ok hg (fun _ _ _ _ _ => pts_nil) he hs
theorem ps_lcf {i : Nat} {y : Str} {py spos : Pos} {c : Expr} {tt : TT} (hN : X.N.Nodup) (hy : X.N[i]? = some y) (hyl : X.env.scope.names.lookup y = some .local) (hsw : swapsWith (.ListComp elt [⟨tg, iter, [c], 0⟩] scope pos) (some (.Name y py)) spos.line X.env = pure true)
    (hi : PI X tg iter wi) (ok : BlkOk X.N X.env.scope scope own)
    (hg : ∀ (s : Shared) (H : Hp) (C : Addr) (cl : List (Str × Addr)) (fp : List Addr), PG (X.blk s H scope (compEnvC scope cl C X.env) fp) tg g)
    (ht : ∀ (s : Shared) (H : Hp) (C : Addr) (cl : List (Str × Addr)) (fp : List Addr), PT (X.blk s H scope (compEnvC scope cl C X.env) fp) c tt)
    (he : ∀ (s : Shared) (H : Hp) (C : Addr) (cl : List (Str × Addr)) (fp : List Addr), PE (X.blk s H scope (compEnvC scope cl C X.env) fp) elt te) (hc : X.calm = true := by rfl) (hs : ∀ x, foldedSetIterable iter X.env x = pure x := by intro _; rfl) :
    PS X (.Assign [.Name y py] (.ListComp elt [⟨tg, iter, [c], 0⟩] scope pos) spos) (tAsg (tLf wi g tt te (own.map (·.2))) (gName i)) := ps_setLc (tt := tt) hc hN hy hyl hsw hi ok hg (fun s H C cl fp => pts_one (ht s H C cl fp)) he hs
end
/-- a tuple's two places to two names -/
theorem g_pair {K : PySem.W.Frag} {α β : Type} {R : Rp α} {S : Rp β} {v : V} {p : α × β} {σ : L2.St} {H : Hp} {Q : L2.St → Hp → Prop} {i j : Nat} (h : PairR R S H v p)
    (k : ∀ x y, R H x p.1 → S H y p.2 → Q ((σ.set i (some x)).set j (some y)) H) : gTup K 2 (gCons (gName i) (gCons (gName j) gNil)) v σ H Q := by
  obtain ⟨a, x, y, rfl, ha, r1, r2⟩ := h
  exact ⟨a, [x, y], rfl, SqT.of ha, rfl, x, [y], rfl, y, [], rfl, rfl, k x y r1 r2⟩
end Jr
set_option Elab.async false
set_option linter.all false
set_option maxRecDepth 100000
set_option maxHeartbeats 4000000
/-! What stands behind the top: the free built-in names, and each def with its promise. -/
namespace Jr
open PySem PySem.Spec PyProof.Rows L2
structure Tx (mg : Str → Option Value) : Prop where
  isinstance : mg "isinstance" = none
  len : mg "len" = none
  all : mg "all" = none
  any : mg "any" = none
  enumerate : mg "enumerate" = none
  zip : mg "zip" = none
  list : mg "list" = none
  range : mg "range" = none
  tuple : mg "tuple" = none
  sorted : mg "sorted" = none
  set : mg "set" = none
  min : mg "min" = none
  max : mg "max" = none
  sum : mg "sum" = none
  int : mg "int" = none
  bool : mg "bool" = none
  str : mg "str" = none
  REACH : ∃ t, mg "REACH" = some (.int 1 t)
  MOST_REACH : ∃ t, mg "MOST_REACH" = some (.int 48 t)
  MOST_SPOTS : ∃ t, mg "MOST_SPOTS" = some (.int 400 t)
  MOST_PLACES : ∃ t, mg "MOST_PLACES" = some (.int 12 t)
  MOST_TREES : ∃ t, mg "MOST_TREES" = some (.int 4 t)
  MOST_NAMES : ∃ t, mg "MOST_NAMES" = some (.int 24 t)
  MOST_SIGNS : ∃ t, mg "MOST_SIGNS" = some (.int 8 t)
  SIGNS : ∃ t, mg "SIGNS" = some (.str "abcdefghijklmnopqrstuvwxyz" t)
/-- a def of the top, by name, with its promise -/
def Kn (P : Program) (w : World) (K : PySem.W.Frag) (mg : Str → Option Value) (base : Heap) (x : Str) (k : Nat) (ps : List Str) (sp : Sp) : Prop :=
  ∃ f fd, mg x = some (.ref f) ∧ PySem.W.keepIn K (.ref f) = true ∧ Binds K fd ps [] ∧ FnOk P w K mg base CX0 k f fd ps sp
section
variable {X : Cx} {k j : Nat} {x : Str} {ps : List Str} {sp : Sp} {p pos : Pos} {e : Expr} {es : List Expr} {t : TA}
theorem pe_kn (D : Kn X.prog X.w X.K X.mg X.base x k ps sp) (hr : Room j X.A) (ha : PA X (e :: es) t) (hk : k ≤ j := by decide) (hg : Gl X x := by rfl) (hdb : (x == ("__debug__" : Str)) = false := by decide)
    (he : starEach (e :: es) X.env = (false, eval e X.env) :: starEach es X.env := by rfl)
    (hpl : (backTo pos (starEach es X.env)).any (·.1) = false := by rfl) : PE X (.Call (.Name x p) (e :: es) [] pos) (tCall sp [] E0 t) := by
  obtain ⟨f, fd, hm, hkp, hb, F⟩ := D
  exact pe_call F (hr.mono hk) hg hm hkp hb .nil pass0 ha hdb he hpl
end
section
variable {P : Program} {w : World} {K : PySem.W.Frag} {mg : Str → Option Value} {base : Heap}
/-- a constant of the top -/
theorem pe_con1 {X : Cx} {x : Str} {i : Int} {pos : Pos} (h : ∃ t, X.mg x = some (.int i t)) (hg : Gl X x := by rfl) (hd : (x == ("__debug__" : Str)) = false := by decide) : PE X (.Name x pos) (tC (.int i)) := by
  obtain ⟨t, h⟩ := h
  exact pe_glob hg h ⟨t, rfl⟩ hd
/-- isinstance(e, T), T a built-in type -/
def tIs (te : TE) (f : Hp → V → Bool → Prop) : TE := fun σ H Q => te σ H fun x H1 => ∃ b, f H1 x b ∧ Q (.bl b) H1
theorem kit_eq {K : PySem.W.Frag} {n : String} : PySem.W.kitOne K (.type n) (.type n) = some true := if_pos (beq_self_eq_true _)
end
end Jr
set_option Elab.async false
set_option linter.all false
set_option maxRecDepth 100000
set_option maxHeartbeats 4000000
/-! zip of two and three, enumerate, over lists, tuples and texts in any mix. -/
namespace Jr
open PySem PySem.Spec PyProof.Rows L2
/-- N turns, at turn i a new tuple of (it i), while G stands -/
def ItN (N : Nat) (G : Hp → Prop) (it : Nat → List V) : It :=
  ⟨fun i H => i < N ∧ G H, fun i H v H' => ∃ T, v = .ref T ∧ H T = none ∧ H' = upd H T (.tup (it i)), fun i H => i = N ∧ G H⟩
theorem walk_N {N : Nat} {G : Hp → Prop} {it : Nat → List V} : Walk (ItN N G it) N G (fun i H v H' => ∃ T, v = .ref T ∧ H T = none ∧ H' = upd H T (.tup (it i))) :=
  ⟨fun _ _ hi g => ⟨hi, g⟩, fun _ g => ⟨rfl, g⟩, fun _ _ _ _ _ _ y => y⟩
/-- an iterator of tuples, over sources that are read -/
theorem turn_N {P : Program} {w : World} {K : PySem.W.Frag} {elts : List Expr} {kk : Nat} {tpos : Pos} {z : Addr} {fp fp' wr : List Addr} {N : Nat} {G : Hp → Prop} {it : Nat → List V} {Vt : Type}
    {n : Vt → Nat} {Pt : Vt → Nat → Array Value → Prop} {St : Vt → Nat → Heap → Prop} {Mid : Vt → Nat → Addr → Heap → Prop} {Sti : Nat → Heap → Prop} {Src : Vt → Heap → Prop}
    (W : ∀ (A : Around), A.handled = none → ∀ vt : Vt, WalksT P w A z fp wr (n vt) (Pt vt) (St vt) (Mid vt))
    (hS : ∀ vt i h, St vt i h ↔ Sti i h ∧ Src vt h)
    (hI : ∀ (X : Cx), X.prog = P → X.w = w → X.K = K → ∀ (pins : List (Addr × Obj)) (σ : L2.St) (H : Hp) (s : Shared), Inv X pins σ H s → G H → ∃ vt, Src vt s.heap ∧ n vt = N ∧ ∀ i vals, Pt vt i vals → Vals (it i) vals.toList)
    (hlen : ∀ i, (it i).length ≤ sizeLine) (hk : ∀ i h h', Sti i h → (∀ b ∈ fp', ∀ o, h.get? b = some o → h'.get? b = some o) → Sti i h')
    (ho : ∀ i h, Sti i h → ∀ b ∈ fp', ∃ o, h.get? b = some o ∧ ∀ v, o.data ≠ .cell v) (hw : ∀ b ∈ wr, b ∈ fp') (hz : z ∈ fp')
    (hself : ∀ (A : Around) (i : Nat) (s : Shared) (Q : Value → Shared → Prop) (E : Value → Shared → Prop), Sti i s.heap → Q (.ref z) s → wpAny (model P w) A (pyIter (.ref z)) Q E s) :
    Turn P w K (.Tuple elts kk tpos) (ItN N G it) fp' z Sti where
  mem := hz
  obj := ho
  keep := hk
  item := by
    intro X hP hw' hK hc i pins s σ H E I hf st hg
    obtain ⟨hi, g⟩ := hg
    obtain ⟨vt, src, hn, hv⟩ := hI X hP hw' hK pins σ H s I g
    have D := W X.A (I.ok.hd hc) vt
    subst hP hw' hK
    refine D.item i s _ _ (by rw [hn]; exact hi) ((hS vt i s.heap).mpr ⟨st, src⟩) fun T vals h' tk hp hT hTup hm hkeep => ⟨.ref T, rfl, ?_⟩
    refine D.go elts kk tpos i T { s with heap := h', toks := tk } _ _ hm fun h'' st'' hkeep'' => ?_
    have ap := D.apart i T h' hm
    have hn' : H T = none := I.hok.fresh hT
    have hTup'' : IsTup h'' T vals := by
      obtain ⟨o, e, r⟩ := (show IsTup h' T vals from hTup)
      exact ⟨o, hkeep'' T o ap e, r⟩
    have new : ObjOk X.prog X.w (upd H T (.tup (it i))) h'' T (.tup (it i)) := ⟨hlen i, vals.toList, hv i vals hp, by simpa using hTup''⟩
    have I1 : Inv X pins σ (upd H T (.tup (it i))) { s with heap := h'', toks := tk } :=
      I.turnedNew (t' := tk) (ch := wr) (fun b o hb q => hkeep'' b o hb (hkeep b o hb q)) (fun b hb => hf b (hw b hb)) hT new
    refine ⟨.ref T, _, I1, rfl, ⟨T, rfl, hn', rfl⟩, ((hS vt (i + 1) h'').mp st'').1, fun b hb => ?_⟩
    obtain ⟨o, e, _⟩ := ho i s.heap st b hb
    rw [upd_ne (Nat.ne_of_lt (Nat.lt_of_lt_of_le (Heap.lt_size e) hT))]
    exact (hf b hb).1
  done := by
    intro X hP hw' hK hc i pins s σ H E I hf st hg
    obtain ⟨hi, g⟩ := hg
    obtain ⟨vt, src, hn, hv⟩ := hI X hP hw' hK pins σ H s I g
    have D := W X.A (I.ok.hd hc) vt
    subst hP hw' hK
    refine D.done s _ _ ((hS vt _ s.heap).mpr ⟨by rw [hn, ← hi]; exact st, src⟩) fun h' tk hkeep => ⟨rfl, I.turnedL (t' := tk) (ch := wr) hkeep fun b hb => hf b (hw b hb)⟩
  self := hself
/-! ### sources -/
inductive Sk where
  | l (a : Addr) | t (a : Addr) | s (x : Str) (tk : Tok)
def Sk.v : Sk → Value
  | .l a => .ref a
  | .t a => .ref a
  | .s x tk => .str x tk
def Sk.ob : Sk → Obj
  | .l a => { cls := .type "list_iterator", data := .fields #[.ref a, .int 0 0] }
  | .t a => { cls := .type "tuple_iterator", data := .fields #[.ref a, .int 0 0] }
  | .s x tk => { cls := .type (strIterType x), data := .fields #[.str x tk, .int 0 0] }
def Sk.fp : Sk → List Addr
  | .l a => [a]
  | .t a => [a]
  | .s _ _ => []
def Sk.st (k : Sk) (it : Addr) (i : Nat) (h : Heap) : Prop := match k with
  | .l a => h.IsListIter it a i
  | .t a => h.IsTupleIter it a i
  | .s x tk => h.IsStrIter it (strIterType x) x tk i
def Sk.src (k : Sk) (vs : Array Value) (h : Heap) : Prop := match k with
  | .l a => h.IsList a vs
  | .t a => h.IsTuple a vs
  | .s _ _ => True
def Sk.n (k : Sk) (vs : Array Value) : Nat := match k with
  | .s x _ => x.cps.size
  | _ => vs.size
def Sk.P (k : Sk) (vs : Array Value) (i : Nat) (v : Value) : Prop := match k with
  | .s x _ => ∃ c u, x.cps[i]? = some c ∧ v = .str ⟨#[c]⟩ u
  | _ => vs[i]? = some v
/-- the items, by V -/
def Sk.its (K : PySem.W.Frag) (H : Hp) (k : Sk) (xs : List V) : Prop := match k with
  | .l a => SqL K H a xs
  | .t a => SqT K H a xs
  | .s x _ => xs = x.cps.toList.map fun c => V.str ⟨#[c]⟩
theorem Sk.draws {prog : Program} {w : World} {A : Around} (hh : A.handled = none) (k : Sk) (it : Addr) (hne : ∀ b ∈ k.fp, b ≠ it) (vs : Array Value) :
    Draws prog w A it (it :: k.fp) (k.n vs) (k.P vs) (fun i h => k.st it i h ∧ k.src vs h) := by
  cases k with
  | l a => exact Draws.list hh it a (hne a (by simp [Sk.fp])) vs
  | t a => exact Draws.tuple hh it a (hne a (by simp [Sk.fp])) vs
  | s x tk =>
    have D := Draws.text (prog := prog) (w := w) (A := A) hh it x tk
    exact { live := fun i h st => D.live i h st.1, frame := fun i h h' st hk => ⟨D.frame i h h' st.1 hk, trivial⟩,
            item := fun i s Q E hi st hQ => D.item i s Q E hi st.1 fun v h' tk' p st' sb => hQ v h' tk' p ⟨st', trivial⟩ sb,
            done := fun s Q E st hE => D.done s Q E st.1 hE }
theorem Sk.begins (k : Sk) (vs : Array Value) : Begins k.v k.ob (k.src vs) := by
  cases k with
  | l a => exact begins_list a vs
  | t a => exact begins_tuple a vs
  | s x tk => exact begins_text x tk
theorem Sk.st0 {k : Sk} {it : Addr} {h : Heap} (e : h.get? it = some k.ob) : k.st it 0 h := by
  cases k with
  | l a => exact ⟨_, e, rfl, rfl⟩
  | t a => exact ⟨_, e, rfl, rfl⟩
  | s x tk => exact ⟨_, e, rfl, rfl⟩
theorem Sk.keep {k : Sk} {it : Addr} {i : Nat} {h h' : Heap} (s : k.st it i h) (hk : ∀ o, h.get? it = some o → h'.get? it = some o) : k.st it i h' := by
  cases k with
  | l a => obtain ⟨o, e, r⟩ := s; exact ⟨o, hk o e, r⟩
  | t a => obtain ⟨o, e, r⟩ := s; exact ⟨o, hk o e, r⟩
  | s x tk => obtain ⟨o, e, r⟩ := s; exact ⟨o, hk o e, r⟩
theorem Sk.obj {k : Sk} {it : Addr} {i : Nat} {h : Heap} (s : k.st it i h) : ∃ o, h.get? it = some o ∧ ∀ v, o.data ≠ .cell v := by
  cases k with
  | l a => obtain ⟨o, e, _, d⟩ := s; exact ⟨o, e, fun v z => by rw [d] at z; cases z⟩
  | t a => obtain ⟨o, e, _, d⟩ := s; exact ⟨o, e, fun v z => by rw [d] at z; cases z⟩
  | s x tk => obtain ⟨o, e, _, d⟩ := s; exact ⟨o, e, fun v z => by rw [d] at z; cases z⟩
theorem Sk.read {X : Cx} {pins : List (Addr × Obj)} {σ : L2.St} {H : Hp} {s : Shared} (I : Inv X pins σ H s) {k : Sk} {xs : List V} (h : k.its X.K H xs) :
    ∃ vs, k.src vs s.heap ∧ k.n vs = xs.length ∧ ∀ i v, k.P vs i v → ∃ x, xs[i]? = some x ∧ RelV x v := by
  cases k with
  | l a =>
    obtain ⟨its, rv, p, _⟩ := I.list h
    refine ⟨its.toArray, p.isList, by simp [Sk.n, rv.length], fun i v hv => ?_⟩
    have hv' : its[i]? = some v := by simpa [Sk.P] using hv
    exact pd_getr rv hv'
  | t a =>
    obtain ⟨its, rv, p, _⟩ := I.tuple h
    refine ⟨its.toArray, p, by simp [Sk.n, rv.length], fun i v hv => ?_⟩
    have hv' : its[i]? = some v := by simpa [Sk.P] using hv
    exact pd_getr rv hv'
  | s x tk =>
    have h' : xs = x.cps.toList.map fun c => V.str ⟨#[c]⟩ := h
    subst h'
    refine ⟨#[], trivial, by simp [Sk.n], fun i v hv => ?_⟩
    obtain ⟨c, u, hc, rfl⟩ := (show ∃ c u, x.cps[i]? = some c ∧ v = .str ⟨#[c]⟩ u from hv)
    exact ⟨.str ⟨#[c]⟩, by simp [hc], ⟨u, rfl⟩⟩
theorem Sk.lt {X : Cx} {pins : List (Addr × Obj)} {σ : L2.St} {H : Hp} {s : Shared} (I : Inv X pins σ H s) {k : Sk} {xs : List V} (h : k.its X.K H xs) : ∀ b ∈ k.fp, b < s.heap.objs.size := by
  cases k with
  | l a =>
    obtain ⟨its, rv, p, _⟩ := I.list h
    intro b hb
    have e : b = a := by simpa [Sk.fp] using hb
    rw [e]; exact p.lt
  | t a =>
    obtain ⟨its, rv, ⟨o, e0, _⟩, _⟩ := I.tuple h
    intro b hb
    have e : b = a := by simpa [Sk.fp] using hb
    rw [e]; exact Heap.lt_size e0
  | s x tk => intro b hb; simp [Sk.fp] at hb
/-- what is walked: a list, a tuple, a text -/
inductive Kd | l | t | s
def SrcIs (K : PySem.W.Frag) (H : Hp) (kd : Kd) (v : V) (xs : List V) : Prop := match kd with
  | .l => ∃ a, v = .ref a ∧ SqL K H a xs
  | .t => ∃ a, v = .ref a ∧ SqT K H a xs
  | .s => ∃ x : Str, v = .str x ∧ xs = x.cps.toList.map fun c => V.str ⟨#[c]⟩
theorem SrcIs.sk {K : PySem.W.Frag} {H : Hp} {kd : Kd} {v : V} {xs : List V} {u : Value} (h : SrcIs K H kd v xs) (r : RelV v u) : ∃ k : Sk, k.v = u ∧ ∀ H', SrcIs K H' kd v xs → k.its K H' xs := by
  cases kd with
  | l =>
    obtain ⟨a, rfl, h⟩ := h
    cases r
    exact ⟨.l a, rfl, fun H' ⟨b, e, h'⟩ => by cases e; exact h'⟩
  | t =>
    obtain ⟨a, rfl, h⟩ := h
    cases r
    exact ⟨.t a, rfl, fun H' ⟨b, e, h'⟩ => by cases e; exact h'⟩
  | s =>
    obtain ⟨x, rfl, h⟩ := h
    obtain ⟨tk, rfl⟩ := r
    exact ⟨.s x tk, rfl, fun H' ⟨b, e, h'⟩ => by cases e; exact h'⟩
theorem getD_of {xs : List V} {i : Nat} {x : V} (h : xs[i]? = some x) : xs.getD i .non = x := by rw [List.getD_eq_getElem?_getD, h]; rfl
theorem fresh_le {X : Cx} {pins : List (Addr × Obj)} {σ : L2.St} {H : Hp} {s : Shared} (I : Inv X pins σ H s) {k c : Nat} (h : c = s.heap.objs.size + k) : FpOk X pins H c := by
  have hle : s.heap.objs.size ≤ c := by omega
  exact I.fpOk hle (I.hok.fresh hle)
theorem two_le : (2 : Nat) ≤ sizeLine := by decide
theorem three_le : (3 : Nat) ≤ sizeLine := by decide
/-! ### zip of two -/
def ItZ2 (K : PySem.W.Frag) (k1 k2 : Kd) (v1 v2 : V) (xs ys : List V) : It :=
  ItN (min xs.length ys.length) (fun H => SrcIs K H k1 v1 xs ∧ SrcIs K H k2 v2 ys) fun i => [xs.getD i .non, ys.getD i .non]
def iZip2 (K : PySem.W.Frag) (ta : TA) : TI := fun σ H R => ta σ H fun vs H1 => ∃ v1 v2 k1 k2 xs ys, vs = [v1, v2] ∧ SrcIs K H1 k1 v1 xs ∧ SrcIs K H1 k2 v2 ys ∧ R (ItZ2 K k1 k2 v1 v2 xs ys) H1
theorem pi_zip2 {X : Cx} {e e2 : Expr} {ta : TA} {p pos tpos : Pos} {elts : List Expr} {kk : Nat} (hm : X.mg "zip" = none) (ha : PA X [e, e2] ta) (hg : Gl X "zip" := by rfl)
    (hs : starEach [e, e2] X.env = (false, eval e X.env) :: starEach [e2] X.env := by rfl) (hpl : (backTo pos (starEach [e2] X.env)).any (·.1) = false := by rfl) :
    PI X (.Tuple elts kk tpos) (.Call (.Name "zip" p) [e, e2] [] pos) (iZip2 X.K ta) := by
  refine ⟨fun pins s σ H R I h => ?_⟩
  refine Call_ (ld_blt I hg hm PyProof.Rows.boot_zip (PyProof.Rows.callWith_type1 (thn (ha.run pos pins s σ H _ I h) fun us s1 ⟨vs, H1, I1, r1, q1⟩ => ?_) hs hpl))
  obtain ⟨v1, v2, d1, d2, xs, ys, rfl, h1, h2, q⟩ := q1
  cases r1 with
  | cons ra rr =>
    cases rr with
    | cons rb rr =>
      cases rr
      obtain ⟨k1, e1, f1⟩ := h1.sk ra
      obtain ⟨k2, e2, f2⟩ := h2.sk rb
      subst e1 e2
      obtain ⟨w1, s1', n1, _⟩ := Sk.read I1 (f1 _ h1)
      obtain ⟨w2, s2', n2, _⟩ := Sk.read I1 (f2 _ h2)
      have l1 := Sk.lt I1 (f1 _ h1)
      have l2 := Sk.lt I1 (f2 _ h2)
      refine zip_begins2 (k1.begins w1) (k2.begins w2) s1' s2' fun h' hz hTI hTO g1 g2 hsz hk => wpAny_pyIter_zip hz ?_
      have I2 : Inv X pins σ H1 { s1 with heap := h' } := I1.kept (t' := s1.toks) hk
      generalize hN : s1.heap.objs.size = N at *
      have T : Turn X.prog X.w X.K (.Tuple elts kk tpos) (ItZ2 X.K d1 d2 v1 v2 xs ys) [N + 4, N + 2, N + 3, N, N + 1] (N + 4)
          (fun i h => IsZip h (N + 4) (N + 2) (N + 3) .none ∧ IsTupOf2 h (N + 2) (.ref N) (.ref (N + 1)) ∧ (∃ a1 a2, IsTupOf2 h (N + 3) a1 a2) ∧ k1.st N i h ∧ k2.st (N + 1) i h) := by
        refine turn_N (Vt := Array Value × Array Value) (fp := (N + 4) :: (N + 2) :: (N + 3) :: ((N :: k1.fp) ++ ((N + 1) :: k2.fp))) (wr := [N + 4, N + 3, N, N + 1]) (n := fun vt => min (k1.n vt.1) (k2.n vt.2))
          (Src := fun vt h => k1.src vt.1 h ∧ k2.src vt.2 h)
          (fun A hh vt => WalksT.zipD2 (zip_sep2 l1 l2) (Sk.draws (A := A.in1) (by simpa using hh) k1 N (fun b hb => Nat.ne_of_lt (l1 b hb)) vt.1) (Sk.draws (A := A.in1) (by simpa using hh) k2 (N + 1) (fun b hb => Nat.ne_of_lt (Nat.lt_succ_of_lt (l2 b hb))) vt.2))
          (fun vt i h => ⟨fun ⟨a, b, c, d, e⟩ => ⟨⟨a, b, c, d.1, e.1⟩, d.2, e.2⟩, fun ⟨⟨a, b, c, d, e⟩, d', e'⟩ => ⟨a, b, c, ⟨d, d'⟩, e, e'⟩⟩)
          (fun X' hP hw hK pins σ H s I g => ?_) (fun i => two_le) (fun i h h' st hk => ?_) (fun i h st b hb => ?_) (fun b hb => ?_) (by simp) (fun A i s Q E st h => wpAny_pyIter_zip st.1 h)
        · skip
          rw [← hK] at g f1 f2
          obtain ⟨w1, s1', n1, p1⟩ := Sk.read I (f1 _ g.1)
          obtain ⟨w2, s2', n2, p2⟩ := Sk.read I (f2 _ g.2)
          refine ⟨(w1, w2), ⟨s1', s2'⟩, by show min (k1.n w1) (k2.n w2) = _; rw [n1, n2], fun i vals hp => ?_⟩
          obtain ⟨x1, x2, q1, q2, rfl⟩ := hp
          obtain ⟨y1, t1, r1⟩ := p1 i x1 q1
          obtain ⟨y2, t2, r2⟩ := p2 i x2 q2
          show Vals [xs.getD i .non, ys.getD i .non] [x1, x2]
          rw [getD_of t1, getD_of t2]
          exact .cons r1 (.cons r2 .nil)
        · obtain ⟨a, b, ⟨c1, c2, c⟩, d, e⟩ := st
          exact ⟨hk _ (by simp) _ a, hk _ (by simp) _ b, ⟨c1, c2, hk _ (by simp) _ c⟩, Sk.keep (k := k1) d (hk _ (by simp)), Sk.keep (k := k2) e (hk _ (by simp))⟩
        · obtain ⟨a, b', ⟨c1, c2, c⟩, d, e⟩ := st
          have q : b = N + 4 ∨ b = N + 2 ∨ b = N + 3 ∨ b = N ∨ b = N + 1 := by simpa using hb
          rcases q with q | q | q | q | q <;> subst q
          · exact ⟨_, a, fun v z => nomatch z⟩
          · exact ⟨_, b', fun v z => nomatch z⟩
          · exact ⟨_, c, fun v z => nomatch z⟩
          · exact Sk.obj (k := k1) d
          · exact Sk.obj (k := k2) e
        · have q : b = N + 4 ∨ b = N + 3 ∨ b = N ∨ b = N + 1 := by simpa using hb
          rcases q with q | q | q | q <;> subst q <;> simp
      refine ⟨N + 4, [N + 4, N + 2, N + 3, N, N + 1], _, _, H1, rfl, I2, T, ⟨hz, hTI, ⟨_, _, hTO⟩, Sk.st0 g1, Sk.st0 g2⟩, fun c hc => ?_, q⟩
      have q : c = N + 4 ∨ c = N + 2 ∨ c = N + 3 ∨ c = N + 0 ∨ c = N + 1 := by simpa using hc
      rcases q with q | q | q | q | q <;> exact fresh_le I1 (by rw [hN]; exact q)
/-! ### zip of three -/
def ItZ3 (K : PySem.W.Frag) (k1 k2 k3 : Kd) (v1 v2 v3 : V) (xs ys zs : List V) : It :=
  ItN (min (min xs.length ys.length) zs.length) (fun H => SrcIs K H k1 v1 xs ∧ SrcIs K H k2 v2 ys ∧ SrcIs K H k3 v3 zs) fun i => [xs.getD i .non, ys.getD i .non, zs.getD i .non]
def iZip3 (K : PySem.W.Frag) (ta : TA) : TI := fun σ H R => ta σ H fun vs H1 => ∃ v1 v2 v3 k1 k2 k3 xs ys zs, vs = [v1, v2, v3] ∧ SrcIs K H1 k1 v1 xs ∧ SrcIs K H1 k2 v2 ys ∧ SrcIs K H1 k3 v3 zs ∧ R (ItZ3 K k1 k2 k3 v1 v2 v3 xs ys zs) H1
theorem pi_zip3 {X : Cx} {e e2 e3 : Expr} {ta : TA} {p pos tpos : Pos} {elts : List Expr} {kk : Nat} (hm : X.mg "zip" = none) (ha : PA X [e, e2, e3] ta) (hg : Gl X "zip" := by rfl)
    (hs : starEach [e, e2, e3] X.env = (false, eval e X.env) :: starEach [e2, e3] X.env := by rfl) (hpl : (backTo pos (starEach [e2, e3] X.env)).any (·.1) = false := by rfl) :
    PI X (.Tuple elts kk tpos) (.Call (.Name "zip" p) [e, e2, e3] [] pos) (iZip3 X.K ta) := by
  refine ⟨fun pins s σ H R I h => ?_⟩
  refine Call_ (ld_blt I hg hm PyProof.Rows.boot_zip (PyProof.Rows.callWith_type1 (thn (ha.run pos pins s σ H _ I h) fun us s1 ⟨vs, H1, I1, r1, q1⟩ => ?_) hs hpl))
  obtain ⟨v1, v2, v3, d1, d2, d3, xs, ys, zs, rfl, h1, h2, h3, q⟩ := q1
  cases r1 with
  | cons ra rr =>
    cases rr with
    | cons rb rr =>
      cases rr with
      | cons rc rr =>
        cases rr
        obtain ⟨k1, e1, f1⟩ := h1.sk ra
        obtain ⟨k2, e2, f2⟩ := h2.sk rb
        obtain ⟨k3, e3, f3⟩ := h3.sk rc
        subst e1 e2 e3
        obtain ⟨w1, s1', n1, _⟩ := Sk.read I1 (f1 _ h1)
        obtain ⟨w2, s2', n2, _⟩ := Sk.read I1 (f2 _ h2)
        obtain ⟨w3, s3', n3, _⟩ := Sk.read I1 (f3 _ h3)
        have l1 := Sk.lt I1 (f1 _ h1)
        have l2 := Sk.lt I1 (f2 _ h2)
        have l3 := Sk.lt I1 (f3 _ h3)
        refine zip_begins3 (k1.begins w1) (k2.begins w2) (k3.begins w3) s1' s2' s3' fun h' hz hTI hTO g1 g2 g3 hsz hk => wpAny_pyIter_zip hz ?_
        have I2 : Inv X pins σ H1 { s1 with heap := h' } := I1.kept (t' := s1.toks) hk
        generalize hN : s1.heap.objs.size = N at *
        have T : Turn X.prog X.w X.K (.Tuple elts kk tpos) (ItZ3 X.K d1 d2 d3 v1 v2 v3 xs ys zs) [N + 5, N + 3, N + 4, N, N + 1, N + 2] (N + 5)
            (fun i h => IsZip h (N + 5) (N + 3) (N + 4) .none ∧ IsTupOf3 h (N + 3) (.ref N) (.ref (N + 1)) (.ref (N + 2)) ∧ (∃ a1 a2 a3, IsTupOf3 h (N + 4) a1 a2 a3) ∧ k1.st N i h ∧ k2.st (N + 1) i h ∧ k3.st (N + 2) i h) := by
          refine turn_N (Vt := Array Value × Array Value × Array Value) (fp := (N + 5) :: (N + 3) :: (N + 4) :: ((N :: k1.fp) ++ ((N + 1) :: k2.fp) ++ ((N + 2) :: k3.fp))) (wr := [N + 5, N + 4, N, N + 1, N + 2])
            (n := fun vt => min (min (k1.n vt.1) (k2.n vt.2.1)) (k3.n vt.2.2)) (Src := fun vt h => k1.src vt.1 h ∧ k2.src vt.2.1 h ∧ k3.src vt.2.2 h)
            (fun A hh vt => WalksT.zipD3 (zip_sep3 l1 l2 l3) (Sk.draws (A := A.in1) (by simpa using hh) k1 N (fun b hb => Nat.ne_of_lt (l1 b hb)) vt.1)
              (Sk.draws (A := A.in1) (by simpa using hh) k2 (N + 1) (fun b hb => Nat.ne_of_lt (Nat.lt_succ_of_lt (l2 b hb))) vt.2.1)
              (Sk.draws (A := A.in1) (by simpa using hh) k3 (N + 2) (fun b hb => Nat.ne_of_lt (Nat.lt_succ_of_lt (Nat.lt_succ_of_lt (l3 b hb)))) vt.2.2))
            (fun vt i h => ⟨fun ⟨a, b, c, d, e, g⟩ => ⟨⟨a, b, c, d.1, e.1, g.1⟩, d.2, e.2, g.2⟩, fun ⟨⟨a, b, c, d, e, g⟩, d', e', g'⟩ => ⟨a, b, c, ⟨d, d'⟩, ⟨e, e'⟩, g, g'⟩⟩)
            (fun X' hP hw hK pins σ H s I g => ?_) (fun i => three_le) (fun i h h' st hk => ?_) (fun i h st b hb => ?_) (fun b hb => ?_) (by simp) (fun A i s Q E st h => wpAny_pyIter_zip st.1 h)
          · skip
            rw [← hK] at g f1 f2 f3
            obtain ⟨w1, s1', n1, p1⟩ := Sk.read I (f1 _ g.1)
            obtain ⟨w2, s2', n2, p2⟩ := Sk.read I (f2 _ g.2.1)
            obtain ⟨w3, s3', n3, p3⟩ := Sk.read I (f3 _ g.2.2)
            refine ⟨(w1, w2, w3), ⟨s1', s2', s3'⟩, by show min (min (k1.n w1) (k2.n w2)) (k3.n w3) = _; rw [n1, n2, n3], fun i vals hp => ?_⟩
            obtain ⟨x1, x2, x3, q1, q2, q3, rfl⟩ := hp
            obtain ⟨y1, t1, r1⟩ := p1 i x1 q1
            obtain ⟨y2, t2, r2⟩ := p2 i x2 q2
            obtain ⟨y3, t3, r3⟩ := p3 i x3 q3
            show Vals [xs.getD i .non, ys.getD i .non, zs.getD i .non] [x1, x2, x3]
            rw [getD_of t1, getD_of t2, getD_of t3]
            exact .cons r1 (.cons r2 (.cons r3 .nil))
          · obtain ⟨a, b, ⟨c1, c2, c3, c⟩, d, e, g⟩ := st
            exact ⟨hk _ (by simp) _ a, hk _ (by simp) _ b, ⟨c1, c2, c3, hk _ (by simp) _ c⟩, Sk.keep (k := k1) d (hk _ (by simp)), Sk.keep (k := k2) e (hk _ (by simp)), Sk.keep (k := k3) g (hk _ (by simp))⟩
          · obtain ⟨a, b', ⟨c1, c2, c3, c⟩, d, e, g⟩ := st
            have q : b = N + 5 ∨ b = N + 3 ∨ b = N + 4 ∨ b = N ∨ b = N + 1 ∨ b = N + 2 := by simpa using hb
            rcases q with q | q | q | q | q | q <;> subst q
            · exact ⟨_, a, fun v z => nomatch z⟩
            · exact ⟨_, b', fun v z => nomatch z⟩
            · exact ⟨_, c, fun v z => nomatch z⟩
            · exact Sk.obj (k := k1) d
            · exact Sk.obj (k := k2) e
            · exact Sk.obj (k := k3) g
          · have q : b = N + 5 ∨ b = N + 4 ∨ b = N ∨ b = N + 1 ∨ b = N + 2 := by simpa using hb
            rcases q with q | q | q | q | q <;> subst q <;> simp
        refine ⟨N + 5, [N + 5, N + 3, N + 4, N, N + 1, N + 2], _, _, H1, rfl, I2, T, ⟨hz, hTI, ⟨_, _, _, hTO⟩, Sk.st0 g1, Sk.st0 g2, Sk.st0 g3⟩, fun c hc => ?_, q⟩
        have q : c = N + 5 ∨ c = N + 3 ∨ c = N + 4 ∨ c = N + 0 ∨ c = N + 1 ∨ c = N + 2 := by simpa using hc
        rcases q with q | q | q | q | q | q <;> exact fresh_le I1 (by rw [hN]; exact q)
/-! ### enumerate -/
def ItE1 (K : PySem.W.Frag) (k1 : Kd) (v1 : V) (xs : List V) : It := ItN xs.length (fun H => SrcIs K H k1 v1 xs) fun i => [.int (i : Int), xs.getD i .non]
def iEn (K : PySem.W.Frag) (ta : TA) : TI := fun σ H R => ta σ H fun vs H1 => ∃ v1 k1 xs, vs = [v1] ∧ SrcIs K H1 k1 v1 xs ∧ R (ItE1 K k1 v1 xs) H1
/-- enumerate.__new__ of one argument, of anything that begins -/
theorem meets_en1 {v : Value} {o : Obj} {G : Heap → Prop} (B : Begins v o G) :
    Meets (Builtin.«enumerate.__new__» ⟨[.type "enumerate", v], []⟩) (fun _ R s => G s.heap ∧ R (.ok (.ret (.ref (s.heap.push o).objs.size)))
      { s with heap := (s.heap.push o).push { cls := .type "enumerate", data := .fields #[.none, .bool false, .ref s.heap.objs.size, rawInt 0, .none, .none] } }) :=
  .of_wp fun prog w A R s ⟨gs, h⟩ => by
    obtain ⟨hp, gn, dr, tk, os⟩ := s
    have sub := sub_enumerate
    have it : ∀ {A' : Around} {E Q : Value → Shared → Prop}, Q (.ref hp.objs.size) ⟨hp.push o, gn, dr, tk, os⟩ → wpAny (model prog w) A' (pyIter v) Q E ⟨hp, gn, dr, tk, os⟩ :=
      fun q => B.iter prog w _ _ ⟨hp, gn, dr, tk, os⟩ _ gs q
    wp_walk using it
    refine wpAny_stack_any fun _ => wpAny_pure ?_
    split
    · rename_i c _ _ _ _ _
      cases (c == Value.type "enumerate") <;> (wp_walk using it; exact ⟨_, rfl, h⟩)
    · wp_walk using it
      exact ⟨_, rfl, h⟩
theorem en_begins {prog : Program} {w : World} {A : Around} {E : Value → Shared → Prop} {s : Shared} {v : Value} {o : Obj} {G : Heap → Prop} {Q : Value → Shared → Prop} (B : Begins v o G) (gs : G s.heap)
    (k : ∀ h', IsEnum h' (s.heap.objs.size + 1) s.heap.objs.size 0 .none → h'.get? s.heap.objs.size = some o → (∀ b u, s.heap.get? b = some u → h'.get? b = some u) → Q (.ref (s.heap.objs.size + 1)) { s with heap := h' }) :
    wpAny (model prog w) A (call (.type "enumerate") [v]) Q E s := by
  refine callType_new F.called_enumerate (by decide) (F.typeCall_enumerate_1 _) (F.newCall_enumerate_1 _) (fun obj => F.args_object_init_2 obj _) F.entry_enumerate_new (meets_en1 B) ⟨gs, ?_⟩
  have hz : (s.heap.push o).objs.size = s.heap.objs.size + 1 := Heap.size_push ..
  have he := Heap.get?_push_size (s.heap.push o) (o := { cls := .type "enumerate", data := .fields #[.none, .bool false, .ref s.heap.objs.size, rawInt 0, .none, .none] }) rfl
  show _ ∧ _
  rw [hz] at he ⊢
  exact ⟨⟨_, he, rfl⟩, k _ he (Heap.get?_push_of_some _ (Heap.get?_push_size _ B.free)) fun b u x => Heap.get?_push_of_some _ (Heap.get?_push_of_some _ x)⟩
theorem pi_en {X : Cx} {e : Expr} {ta : TA} {p pos tpos : Pos} {elts : List Expr} {kk : Nat} (hm : X.mg "enumerate" = none) (ha : PA X [e] ta) (hg : Gl X "enumerate" := by rfl) (hs : starEach [e] X.env = [(false, eval e X.env)] := by rfl) :
    PI X (.Tuple elts kk tpos) (.Call (.Name "enumerate" p) [e] [] pos) (iEn X.K ta) := by
  refine ⟨fun pins s σ H R I h => ?_⟩
  refine Call_ (ld_blt I hg hm boot_enumerate (PyProof.Rows.callWith_type1 (thn (ha.run pos pins s σ H _ I h) fun us s1 ⟨vs, H1, I1, r1, q1⟩ => ?_) hs rfl))
  obtain ⟨v1, d1, xs, rfl, h1, q⟩ := q1
  cases r1 with
  | cons ra rr =>
    cases rr
    obtain ⟨k1, e1, f1⟩ := h1.sk ra
    subst e1
    obtain ⟨w1, s1', n1, _⟩ := Sk.read I1 (f1 _ h1)
    have l1 := Sk.lt I1 (f1 _ h1)
    refine en_begins (k1.begins w1) s1' fun h' hz g1 hk => wpAny_pyIter_enum hz ?_
    have I2 : Inv X pins σ H1 { s1 with heap := h' } := I1.kept (t' := s1.toks) hk
    generalize hN : s1.heap.objs.size = N at *
    have T : Turn X.prog X.w X.K (.Tuple elts kk tpos) (ItE1 X.K d1 v1 xs) [N + 1, N] (N + 1) (fun i h => (∃ old, IsEnum h (N + 1) N (0 + (i : Int)) old) ∧ k1.st N i h) := by
      refine turn_N (Vt := Array Value) (fp := (N + 1) :: (N :: k1.fp)) (wr := [N + 1, N]) (n := fun vt => k1.n vt) (Src := fun vt h => k1.src vt h)
        (fun A hh vt => WalksT.enumFrom 0 (Sk.draws (A := A.in1) (by simpa using hh) k1 N (fun b hb => Nat.ne_of_lt (l1 b hb)) vt) (N + 1) (Nat.succ_ne_self N) (fun hm => ?_) List.mem_cons_self)
        (fun vt i h => ⟨fun ⟨a, b⟩ => ⟨⟨a, b.1⟩, b.2⟩, fun ⟨⟨a, b⟩, c⟩ => ⟨a, b, c⟩⟩)
        (fun X' hP hw hK pins σ H s I g => ?_) (fun i => two_le) (fun i h h' st hk => ?_) (fun i h st b hb => ?_) (fun b hb => hb) (by simp) (fun A i s Q E st h => wpAny_pyIter_enum st.1.choose_spec h)
      · rcases List.mem_cons.mp hm with e | e
        · exact absurd e (Nat.succ_ne_self N)
        · exact absurd (l1 _ e) (by show ¬ (N + 1 < N); omega)
      · rw [← hK] at g f1
        obtain ⟨w1, s1', n1, p1⟩ := Sk.read I (f1 _ g)
        refine ⟨w1, s1', n1, fun i vals hp => ?_⟩
        obtain ⟨t, x1, q1, rfl⟩ := hp
        obtain ⟨y1, t1, r1⟩ := p1 i x1 q1
        show Vals [.int (i : Int), xs.getD i .non] [.int (0 + (i : Int)) t, x1]
        rw [getD_of t1, Int.zero_add]
        exact .cons ⟨t, rfl⟩ (.cons r1 .nil)
      · obtain ⟨⟨old, a⟩, d⟩ := st
        exact ⟨⟨old, hk _ (by simp) _ a⟩, Sk.keep (k := k1) d (hk _ (by simp))⟩
      · obtain ⟨⟨old, a⟩, d⟩ := st
        have q : b = N + 1 ∨ b = N := by simpa using hb
        rcases q with q | q <;> subst q
        · exact ⟨_, a, fun v z => nomatch z⟩
        · exact Sk.obj (k := k1) d
    refine ⟨N + 1, [N + 1, N], _, _, H1, rfl, I2, T, ⟨⟨.none, hz⟩, Sk.st0 g1⟩, fun c hc => ?_, q⟩
    have q : c = N + 1 ∨ c = N + 0 := by simpa using hc
    rcases q with q | q <;> exact fresh_le I1 (by rw [hN]; exact q)
end Jr
set_option Elab.async false
set_option linter.all false
set_option maxRecDepth 100000
set_option maxHeartbeats 4000000
/-! Comprehensions and loops over zip and enumerate, by typed readings. -/
namespace Jr
open PySem PySem.Spec PyProof.Rows L2
def TripR {α β γ : Type} (R : Rp α) (S : Rp β) (U : Rp γ) : Rp (α × β × γ) := fun H v p => ∃ a x y z, v = .ref a ∧ H a = some (.tup [x, y, z]) ∧ R H x p.1 ∧ S H y p.2.1 ∧ U H z p.2.2
theorem g_trip {K : PySem.W.Frag} {α β γ : Type} {R : Rp α} {S : Rp β} {U : Rp γ} {v : V} {p : α × β × γ} {σ : L2.St} {H : Hp} {Q : L2.St → Hp → Prop} {i j l : Nat} (h : TripR R S U H v p)
    (k : ∀ x y z, R H x p.1 → S H y p.2.1 → U H z p.2.2 → Q (((σ.set i (some x)).set j (some y)).set l (some z)) H) : gTup K 3 (gCons (gName i) (gCons (gName j) (gCons (gName l) gNil))) v σ H Q := by
  obtain ⟨a, x, y, z, rfl, ha, r1, r2, r3⟩ := h
  exact ⟨a, [x, y, z], rfl, SqT.of ha, rfl, x, [y, z], rfl, y, [z], rfl, z, [], rfl, rfl, k x y z r1 r2 r3⟩
/-- pairs that a zip yields -/
def Pairs {α β : Type} (R : Rp α) (S : Rp β) (H : Hp) (it : Nat → List V) (bs : List (α × β)) : Prop := ∀ i b, bs[i]? = some b → ∃ x y, it i = [x, y] ∧ R H x b.1 ∧ S H y b.2
def Trips {α β γ : Type} (R : Rp α) (S : Rp β) (U : Rp γ) (H : Hp) (it : Nat → List V) (bs : List (α × β × γ)) : Prop := ∀ i b, bs[i]? = some b → ∃ x y z, it i = [x, y, z] ∧ R H x b.1 ∧ S H y b.2.1 ∧ U H z b.2.2
section
variable {α β γ : Type} {R : Rp α} {S : Rp β} {U : Rp γ} {H : Hp}
theorem pairs_zip {xs ys : List V} {as : List α} {bs : List β} (p : Paired (R H) xs as) (q : Paired (S H) ys bs) : Pairs R S H (fun i => [xs.getD i .non, ys.getD i .non]) (as.zip bs) := by
  intro i b hb
  obtain ⟨h1, h2⟩ := List.getElem?_zip_eq_some.mp hb
  obtain ⟨x, ex, rx⟩ := pd_getr p h1
  obtain ⟨y, ey, ry⟩ := pd_getr q h2
  exact ⟨x, y, by show [xs.getD i .non, ys.getD i .non] = _; rw [getD_of ex, getD_of ey], rx, ry⟩
theorem pairs_en {xs : List V} {as : List α} (p : Paired (R H) xs as) : Pairs NatR R H (fun i => [.int (i : Int), xs.getD i .non]) ((List.range as.length).zip as) := by
  intro i b hb
  obtain ⟨h1, h2⟩ := List.getElem?_zip_eq_some.mp hb
  obtain ⟨x, ex, rx⟩ := pd_getr p h2
  have e : b.1 = i := by
    rw [List.getElem?_range] at h1
    · cases h1; rfl
    · exact (List.getElem?_eq_some_iff.mp h2).1
  exact ⟨.int i, x, by show [V.int i, xs.getD i .non] = _; rw [getD_of ex], by rw [e]; exact rfl, rx⟩
theorem trips_zip {xs ys zs : List V} {as : List α} {bs : List β} {cs : List γ} (p : Paired (R H) xs as) (q : Paired (S H) ys bs) (r : Paired (U H) zs cs) :
    Trips R S U H (fun i => [xs.getD i .non, ys.getD i .non, zs.getD i .non]) (as.zip (bs.zip cs)) := by
  intro i b hb
  obtain ⟨h1, h2⟩ := List.getElem?_zip_eq_some.mp hb
  obtain ⟨h2, h3⟩ := List.getElem?_zip_eq_some.mp h2
  obtain ⟨x, ex, rx⟩ := pd_getr p h1
  obtain ⟨y, ey, ry⟩ := pd_getr q h2
  obtain ⟨z, ez, rz⟩ := pd_getr r h3
  exact ⟨x, y, z, by show [xs.getD i .non, ys.getD i .non, zs.getD i .non] = _; rw [getD_of ex, getD_of ey, getD_of ez], rx, ry, rz⟩
end
section
variable {N : Nat} {G : Hp → Prop} {it : Nat → List V} {g : TG} {te : TE} {vs : List Nat} {σ : L2.St} {H1 : Hp} {Q : VK}
/-- [.. for a, b in zip(..)] -/
theorem lc_prs {α β γ : Type} {R : Rp α} {S : Rp β} (sR : Stb R) (sS : Stb S) {RO : Addr → Rp γ} (st : StD RO) {bs : List (α × β)} (hb : Pairs R S H1 it bs) (hN : N = bs.length) (hsz : bs.length ≤ 100000) (hG : ∀ H, Same H1 H → G H) (f : α × β → γ)
    (turn : ∀ (D : Addr) (b : α × β) (v : V) (H : Hp) (Kn : V → Hp → Prop), (∃ acc, H D = some (.lst acc)) → b ∈ bs → Same H1 H → PairR R S H v b → (∀ y H4, Same H H4 → RO D H4 y (f b) → Kn y H4) →
      g v (wipe σ vs) H fun σ2 H2 => wipe σ2 vs = wipe σ vs ∧ te σ2 H2 Kn)
    (k : ∀ D ys H2, H1 D = none → Same H1 H2 → H2 D = some (.lst ys) → Paired (RO D H2) ys (bs.map f) → Q (.ref D) H2) : LcG (ItN N G it) g te vs σ H1 Q := by
  refine lc_map walk_N bs hN hsz st f hG (fun D i b x H H' Kn hD ⟨acc, hacc⟩ hbi sm hy kn => ?_) k
  obtain ⟨T, rfl, hT, rfl⟩ := hy
  obtain ⟨x, y, e, r1, r2⟩ := hb i b hbi
  have s2 : Same H (upd H T (.tup (it i))) := sm_new hT
  have k2 := kt (sm.trans s2)
  exact turn D b _ _ Kn ⟨acc, s2 _ _ hacc⟩ (List.mem_of_getElem? hbi) (sm.trans s2) ⟨T, x, y, rfl, by rw [upd_same, e], sR _ _ _ _ k2 r1, sS _ _ _ _ k2 r2⟩ fun y H4 s4 r4 => kn y H4 (s2.trans s4) r4
theorem lc_trs {α β γ δ : Type} {R : Rp α} {S : Rp β} {U : Rp γ} (sR : Stb R) (sS : Stb S) (sU : Stb U) {RO : Addr → Rp δ} (st : StD RO) {bs : List (α × β × γ)} (hb : Trips R S U H1 it bs) (hN : N = bs.length) (hsz : bs.length ≤ 100000) (hG : ∀ H, Same H1 H → G H) (f : α × β × γ → δ)
    (turn : ∀ (D : Addr) (b : α × β × γ) (v : V) (H : Hp) (Kn : V → Hp → Prop), (∃ acc, H D = some (.lst acc)) → b ∈ bs → Same H1 H → TripR R S U H v b → (∀ y H4, Same H H4 → RO D H4 y (f b) → Kn y H4) →
      g v (wipe σ vs) H fun σ2 H2 => wipe σ2 vs = wipe σ vs ∧ te σ2 H2 Kn)
    (k : ∀ D ys H2, H1 D = none → Same H1 H2 → H2 D = some (.lst ys) → Paired (RO D H2) ys (bs.map f) → Q (.ref D) H2) : LcG (ItN N G it) g te vs σ H1 Q := by
  refine lc_map walk_N bs hN hsz st f hG (fun D i b x H H' Kn hD ⟨acc, hacc⟩ hbi sm hy kn => ?_) k
  obtain ⟨T, rfl, hT, rfl⟩ := hy
  obtain ⟨x, y, z, e, r1, r2, r3⟩ := hb i b hbi
  have s2 : Same H (upd H T (.tup (it i))) := sm_new hT
  have k2 := kt (sm.trans s2)
  exact turn D b _ _ Kn ⟨acc, s2 _ _ hacc⟩ (List.mem_of_getElem? hbi) (sm.trans s2) ⟨T, x, y, z, rfl, by rw [upd_same, e], sR _ _ _ _ k2 r1, sS _ _ _ _ k2 r2, sU _ _ _ _ k2 r3⟩ fun y H4 s4 r4 => kn y H4 (s2.trans s4) r4
end
/-- over enumerate(a tuple) -/
theorem lc_en {α γ : Type} {R : Rp α} (sR : Stb R) {RO : Addr → Rp γ} (st : StD RO) {K : PySem.W.Frag} {g : TG} {te : TE} {vs : List Nat} {σ : L2.St} {H1 : Hp} {Q : VK} {a : Addr} {xs : List V} {as : List α} (ha : H1 a = some (.tup xs)) (pd : Paired (R H1) xs as) (hsz : as.length ≤ 100000)
    (f : Nat × α → γ)
    (turn : ∀ (D : Addr) (b : Nat × α) (v : V) (H : Hp) (Kn : V → Hp → Prop), (∃ acc, H D = some (.lst acc)) → as[b.1]? = some b.2 → Same H1 H → PairR NatR R H v b → (∀ y H4, Same H H4 → RO D H4 y (f b) → Kn y H4) →
      g v (wipe σ vs) H fun σ2 H2 => wipe σ2 vs = wipe σ vs ∧ te σ2 H2 Kn)
    (k : ∀ D ys H2, H1 D = none → Same H1 H2 → H2 D = some (.lst ys) → Paired (RO D H2) ys (((List.range as.length).zip as).map f) → Q (.ref D) H2) : LcG (ItE1 K .t (.ref a) xs) g te vs σ H1 Q := by
  have hl := pd_len pd
  refine lc_prs stb_nat sR st (pairs_en pd) (by simp [hl]) (by simpa using hsz) (fun H s => ⟨a, rfl, SqT.of (s a _ ha)⟩) f (fun D b v H Kn hacc hb sm hp kn => turn D b v H Kn hacc ?_ sm hp kn) k
  obtain ⟨i, hi⟩ := List.mem_iff_getElem?.mp hb
  obtain ⟨h1, h2⟩ := List.getElem?_zip_eq_some.mp hi
  rw [List.getElem?_range (List.getElem?_eq_some_iff.mp h2).1] at h1
  have e1 : i = b.1 := by simpa using h1
  rw [← e1]; exact h2
/-- over zip(a tuple, a tuple) -/
theorem lc_zipT {α β γ : Type} {R : Rp α} {S : Rp β} (sR : Stb R) (sS : Stb S) {RO : Addr → Rp γ} (st : StD RO) {K : PySem.W.Frag} {g : TG} {te : TE} {vs : List Nat} {σ : L2.St} {H1 : Hp} {Q : VK} {a b : Addr} {xs ys : List V} {as : List α} {bs : List β}
    (ha : H1 a = some (.tup xs)) (hb : H1 b = some (.tup ys)) (pa : Paired (R H1) xs as) (pb : Paired (S H1) ys bs) (hsz : as.length ≤ 100000) (f : α × β → γ)
    (turn : ∀ (D : Addr) (p : α × β) (v : V) (H : Hp) (Kn : V → Hp → Prop), (∃ acc, H D = some (.lst acc)) → p ∈ as.zip bs → Same H1 H → PairR R S H v p → (∀ y H4, Same H H4 → RO D H4 y (f p) → Kn y H4) →
      g v (wipe σ vs) H fun σ2 H2 => wipe σ2 vs = wipe σ vs ∧ te σ2 H2 Kn)
    (k : ∀ D zs H2, H1 D = none → Same H1 H2 → H2 D = some (.lst zs) → Paired (RO D H2) zs ((as.zip bs).map f) → Q (.ref D) H2) : LcG (ItZ2 K .t .t (.ref a) (.ref b) xs ys) g te vs σ H1 Q :=
  lc_prs sR sS st (pairs_zip pa pb) (by rw [List.length_zip, pd_len pa, pd_len pb]) (Nat.le_trans (by rw [List.length_zip]; exact Nat.min_le_left _ _) hsz) (fun H s => ⟨⟨a, rfl, SqT.of (s a _ ha)⟩, ⟨b, rfl, SqT.of (s b _ hb)⟩⟩) f turn k
/-- over a list, with a test, by one name -/
theorem lc_lstF {α β : Type} {R : Rp α} {RO : Addr → Rp β} (sR : Stb R) (st : StD RO) {K : PySem.W.Frag} {tt : TT} {te : TE} {vs : List Nat} {σ : L2.St} {H1 : Hp} {Q : VK} {a : Addr} {xs : List V} {as : List α} (ha : H1 a = some (.lst xs)) (pd : Paired (R H1) xs as) (hsz : as.length ≤ 100000) (p : α → Bool) (f : α → β) {i : Nat}
    (turn : ∀ (D : Addr) (b : α) (x : V) (H : Hp) (Kn : V → Hp → Prop) (Ks : Hp → Prop), (∃ acc, H D = some (.lst acc)) → b ∈ as → Same H1 H → R H x b → (p b = true → ∀ y H4, Same H H4 → RO D H4 y (f b) → Kn y H4) → (p b = false → ∀ H3, Same H H3 → Ks H3) →
      wipe ((wipe σ vs).set i (some x)) vs = wipe σ vs ∧ tt ((wipe σ vs).set i (some x)) H fun b H3 => if b = true then te ((wipe σ vs).set i (some x)) H3 Kn else Ks H3)
    (k : ∀ D ys H2, H1 D = none → Same H1 H2 → H2 D = some (.lst ys) → Paired (RO D H2) ys ((as.filter p).map f) → Q (.ref D) H2) : LcF (Itl K a) (gName i) tt te vs σ H1 Q := by
  refine lc_sel walk_list as (pd_len pd) hsz st p f (fun H s => SqL.of (s a _ ha)) (fun D j b x H H' Kn Ks hD hacc hb sm hy kn ks => ?_) k
  obtain ⟨rfl, hx⟩ := hy
  obtain ⟨b', hb', r⟩ := pd_get pd hx
  rw [hb] at hb'
  cases hb'
  exact turn D b x H' Kn Ks hacc (List.mem_of_getElem? hb) sm (sR _ _ _ _ (kt sm) r) kn ks
/-- all(..), any(..) of a list of truths -/
theorem all_true {H : Hp} {ys : List V} {bs : List Bool} (p : Paired (BlR H) ys bs) : ys = bs.map V.bl := bls_map p
theorem map_true {α : Type} {l : List α} {f : α → Bool} (h : ∀ a ∈ l, f a = true) : (l.map f).all id = true := by
  rw [List.all_eq_true]
  intro b hb
  obtain ⟨a, ha, e⟩ := List.mem_map.mp hb
  rw [← e]; exact h a ha
end Jr
set_option Elab.async false
set_option linter.all false
set_option maxRecDepth 100000
set_option maxHeartbeats 4000000
namespace Jr
open PySem PySem.Spec PyProof.Rows L2
section
variable {P : Program} {w : World} {K : PySem.W.Frag} {mg : Str → Option Value} {base : Heap} {f : Addr} {fd : FuncData}
theorem kn_of {x : Str} {st : Stmt} {k : Nat} {ps : List Str} {sp : Sp} (F : FnP K x st f fd) (g : mg x = some (.ref f)) (h : FnOk P w K mg base CX0 k f fd ps sp)
    (hb : ∀ (kV doc pm : Value) (an : Option Addr) (cdv ct : Value) (us : List Value), us.length = ps.length → bindArgs (PySem.W.fnOf x x (defArgs st) (defBody st) (defScope st) .none kV doc pm an cdv ct) ⟨us, []⟩ = pure (ps.zip us)) : Kn P w K mg base x k ps sp :=
  ⟨f, fd, g, F.kp, F.bindsN hb, h⟩
/-! ### is_whole, is_within -/
def sp_is_whole : Sp := fun vs H Q _ => ∃ i : Int, vs = [.int i] ∧ Q (.bl true) H
theorem k_is_whole (T : Tx mg) (F : FnP K "is_whole" s_is_whole f fd) (g : mg "is_whole" = some (.ref f)) : Kn P w K mg base "is_whole" 1 ["thing"] sp_is_whole := by
  refine kn_of F g (F.ok c_is_whole (fun vs H Q E h => ?_) (fun cdv A outer s H vs Q E hr h => ?_)) (fun _ _ _ _ _ _ us hl => match us, hl with | [_], _ => rfl)
  · obtain ⟨i, rfl, _⟩ := h
    rfl
  · obtain ⟨i, rfl, q⟩ := h
    refine ⟨_, PSs.nox (pss_one (ps_ret (pe_and (pe_callB call_isi (by rfl) T.isinstance boot_isinstance (pa_cons (pv 0) (pa_cons (pe_bltn (v := .ty "int") (by rfl) T.int boot_int rfl) pa_nil)))
      (pe_one (pe_not (pe_callB call_isi (by rfl) T.isinstance boot_isinstance (pa_cons (pv 0) (pa_cons (pe_bltn (v := .ty "bool") (by rfl) T.bool boot_bool rfl) pa_nil)))))))), ?_⟩
    refine ⟨.int i, rfl, .int i, .ty "int", .type "int", .type "int", true, rfl, .ty _, .base (.int i), kit_ty (by decide +kernel), true, rfl, ?_⟩
    refine ⟨.int i, rfl, .int i, .ty "bool", .type "int", .type "bool", false, rfl, .ty _, .base (.int i), kit_ty (by decide +kernel), false, rfl, ?_⟩
    exact q
def sp_is_within : Sp := fun vs H Q _ => ∃ i lo hi : Int, vs = [.int i, .int lo, .int hi] ∧ Q (.bl (decide (lo ≤ i ∧ i ≤ hi))) H
theorem k_is_within (W : Kn P w K mg base "is_whole" 1 ["thing"] sp_is_whole) (F : FnP K "is_within" s_is_within f fd) (g : mg "is_within" = some (.ref f)) : Kn P w K mg base "is_within" 2 ["thing", "low", "high"] sp_is_within := by
  refine kn_of F g (F.ok c_is_within (fun vs H Q E h => ?_) (fun cdv A outer s H vs Q E hr h => ?_)) (fun _ _ _ _ _ _ us hl => match us, hl with | [_, _, _], _ => rfl)
  · obtain ⟨i, lo, hi, rfl, _⟩ := h
    rfl
  · obtain ⟨i, lo, hi, rfl, q⟩ := h
    refine ⟨_, PSs.nox (pss_one (ps_ret (pe_and (pe_kn W hr (pa_cons (pv 0) pa_nil)) (pe_one (pe_chain op_le op_le (pv 1) (pv 0) (pv 2)))))), ?_⟩
    refine ⟨.int i, rfl, i, rfl, true, rfl, ?_⟩
    refine ⟨.int lo, rfl, .int i, rfl, lo, i, rfl, rfl, _, rfl, ?_⟩
    by_cases h1 : lo ≤ i
    · rw [if_pos (decide_eq_true h1)]
      refine ⟨.int hi, rfl, i, hi, rfl, rfl, ?_⟩
      have e : decide (lo ≤ i ∧ i ≤ hi) = decide (i ≤ hi) := by simp [h1]
      rw [e] at q
      exact q
    · have e0 : decide (lo ≤ i) = false := decide_eq_false h1
      have e : decide (lo ≤ i ∧ i ≤ hi) = false := by simp [h1]
      rw [e0, if_neg (by decide)]
      rw [e] at q
      exact q
end
end Jr
set_option linter.all false
/-! Trees of places: a place hangs on a lesser one. Ways, distances, convex sets. -/
namespace Jr
/-- the place on which v hangs -/
def par (t : List Nat) (v : Nat) : Nat := min (t.getD (v - 1) 0) (v - 1)
theorem par_lt (t : List Nat) {v : Nat} (h : 0 < v) : par t v < v := by unfold par; omega
theorem par_le (t : List Nat) (v : Nat) : par t v ≤ v := by unfold par; omega
/-- the places of the way from x to y -/
def path (t : List Nat) (x y : Nat) : List Nat :=
  if x = y then [x] else if y < x then x :: path t (par t x) y else path t x (par t y) ++ [y]
termination_by x + y
decreasing_by
  · have := par_lt t (v := x) (by omega); omega
  · have := par_lt t (v := y) (by omega); omega
def dist (t : List Nat) (x y : Nat) : Nat :=
  if x = y then 0 else if y < x then dist t (par t x) y + 1 else dist t x (par t y) + 1
termination_by x + y
decreasing_by
  · have := par_lt t (v := x) (by omega); omega
  · have := par_lt t (v := y) (by omega); omega
section
variable {t : List Nat} {x y z u v w a : Nat}
theorem path_self : path t x x = [x] := by rw [path, if_pos rfl]
theorem path_gt (h : y < x) : path t x y = x :: path t (par t x) y := by rw [path, if_neg (by omega), if_pos h]
theorem path_lt (h : x < y) : path t x y = path t x (par t y) ++ [y] := by rw [path, if_neg (by omega), if_neg (by omega)]
theorem dist_self : dist t x x = 0 := by rw [dist, if_pos rfl]
theorem dist_gt (h : y < x) : dist t x y = dist t (par t x) y + 1 := by rw [dist, if_neg (by omega), if_pos h]
theorem dist_lt (h : x < y) : dist t x y = dist t x (par t y) + 1 := by rw [dist, if_neg (by omega), if_neg (by omega)]
/-- induction over two places -/
theorem two_ind (t : List Nat) {motive : Nat → Nat → Prop} (h0 : ∀ x, motive x x) (h1 : ∀ x y, y < x → motive (par t x) y → motive x y) (h2 : ∀ x y, x < y → motive x (par t y) → motive x y) : ∀ x y, motive x y := by
  intro x y
  induction hn : x + y using Nat.strongRecOn generalizing x y with
  | ind n ih =>
    rcases Nat.lt_trichotomy x y with h | h | h
    · exact h2 x y h (ih (x + par t y) (by have := par_lt t (v := y) (by omega); omega) x (par t y) rfl)
    · subst h; exact h0 x
    · exact h1 x y h (ih (par t x + y) (by have := par_lt t (v := x) (by omega); omega) (par t x) y rfl)
theorem path_len : ∀ x y, (path t x y).length = dist t x y + 1 := by
  refine two_ind t (fun x => by rw [path_self, dist_self]; rfl) (fun x y h ih => ?_) (fun x y h ih => ?_)
  · rw [path_gt h, dist_gt h, List.length_cons, ih]
  · rw [path_lt h, dist_lt h, List.length_append, ih]; rfl
theorem dist_comm : ∀ x y, dist t x y = dist t y x := by
  refine two_ind t (fun x => rfl) (fun x y h ih => ?_) (fun x y h ih => ?_)
  · rw [dist_gt h, dist_lt h, ih]
  · rw [dist_lt h, dist_gt h, ih]
theorem dist_zero : ∀ x y, dist t x y = 0 → x = y := by
  refine two_ind t (fun x _ => rfl) (fun x y h ih => ?_) (fun x y h ih => ?_)
  · rw [dist_gt h]; intro e; omega
  · rw [dist_lt h]; intro e; omega
/-- the triangle -/
theorem tri (t : List Nat) : ∀ x y z, dist t x z ≤ dist t x y + dist t y z := by
  intro x y z
  induction hn : x + y + z using Nat.strongRecOn generalizing x y z with
  | ind n ih =>
    have px : 0 < x → par t x < x := par_lt t
    have py : 0 < y → par t y < y := par_lt t
    have pz : 0 < z → par t z < z := par_lt t
    by_cases e1 : x = z
    · subst e1; rw [dist_self]; omega
    by_cases e2 : x = y
    · subst e2; rw [dist_self]; omega
    by_cases e3 : y = z
    · subst e3; rw [dist_self]; omega
    by_cases hx : y < x ∧ z < x
    · have i := ih (par t x + y + z) (by have := px (by omega); omega) (par t x) y z rfl
      rw [dist_gt hx.1, dist_gt hx.2]; omega
    by_cases hy : x < y ∧ z < y
    · have i := ih (x + par t y + z) (by have := py (by omega); omega) x (par t y) z rfl
      rw [dist_lt hy.1, dist_gt hy.2]; omega
    have hz : x < z ∧ y < z := by omega
    have i := ih (x + y + par t z) (by have := pz (by omega); omega) x y (par t z) rfl
    rw [dist_lt hz.1, dist_lt hz.2]; omega
/-- a place lies on a way just where the distances add up -/
theorem mem_path_iff (t : List Nat) : ∀ x y z, z ∈ path t x y ↔ dist t x z + dist t z y = dist t x y := by
  intro x y z
  induction hn : x + y + z using Nat.strongRecOn generalizing x y z with
  | ind n ih =>
    have px : 0 < x → par t x < x := par_lt t
    have py : 0 < y → par t y < y := par_lt t
    have pz : 0 < z → par t z < z := par_lt t
    by_cases e1 : x = y
    · subst e1
      rw [path_self, dist_self, List.mem_singleton]
      constructor
      · rintro rfl; rw [dist_self]
      · intro h; exact (dist_zero (t := t) x z (by omega)).symm
    by_cases hxy : y < x
    · rw [path_gt hxy, List.mem_cons]
      by_cases e2 : z = x
      · subst e2; rw [dist_self]; simp
      by_cases hz : x < z
      · constructor
        · rintro (h | h)
          · omega
          · have i := (ih (par t x + y + z) (by have := px (by omega); omega) (par t x) y z rfl).mp h
            rw [dist_lt (show par t x < z by have := px (by omega); omega), dist_gt (show y < z by omega)] at i
            have q := tri t (par t x) (par t z) y
            omega
        · intro h
          rw [dist_lt hz, dist_gt (show y < z by omega)] at h
          have q := tri t x (par t z) y
          omega
      · have hzx : z < x := by omega
        rw [dist_gt hzx, dist_gt hxy, ih (par t x + y + z) (by have := px (by omega); omega) (par t x) y z rfl]
        constructor
        · rintro (h | h) <;> omega
        · intro h; right; omega
    · have hxy : x < y := by omega
      rw [path_lt hxy, List.mem_append, List.mem_singleton]
      by_cases e2 : z = y
      · subst e2; rw [dist_self]; simp
      by_cases hz : y < z
      · constructor
        · rintro (h | h)
          · have i := (ih (x + par t y + z) (by have := py (by omega); omega) x (par t y) z rfl).mp h
            rw [dist_lt (show x < z by omega), dist_gt (show par t y < z by have := py (by omega); omega)] at i
            have q := tri t x (par t z) (par t y)
            omega
          · omega
        · intro h
          rw [dist_lt (show x < z by omega), dist_gt hz] at h
          have q := tri t x (par t z) y
          omega
      · have hzy : z < y := by omega
        rw [dist_lt hzy, dist_lt hxy, ih (x + par t y + z) (by have := py (by omega); omega) x (par t y) z rfl]
        constructor
        · rintro (h | h) <;> omega
        · intro h; left; omega
theorem path_left : x ∈ path t x y := by rw [mem_path_iff, dist_self]; omega
theorem path_right : y ∈ path t x y := by rw [mem_path_iff, dist_self]; omega
theorem path_comm : z ∈ path t x y ↔ z ∈ path t y x := by
  rw [mem_path_iff, mem_path_iff, dist_comm y z, dist_comm z x, dist_comm y x]; omega
theorem path_sub (hz : z ∈ path t x y) (hw : w ∈ path t x z) : w ∈ path t x y := by
  rw [mem_path_iff] at *
  have q := tri t x w y
  have q2 := tri t w z y
  omega
theorem mem_path_le0 (t : List Nat) : ∀ x y, ∀ z ∈ path t x y, z ≤ x ∨ z ≤ y := by
  refine two_ind t (fun x z h => ?_) (fun x y h ih z hz => ?_) (fun x y h ih z hz => ?_)
  · rw [path_self, List.mem_singleton] at h; omega
  · rw [path_gt h, List.mem_cons] at hz
    have := par_le t x
    rcases hz with h' | h'
    · omega
    · have := ih z h'; omega
  · rw [path_lt h, List.mem_append, List.mem_singleton] at hz
    have := par_le t y
    rcases hz with h' | h'
    · have := ih z h'; omega
    · omega
theorem mem_path_le (hz : z ∈ path t x y) : z ≤ x ∨ z ≤ y := mem_path_le0 t x y z hz
/-- ways are thin: a way lies within two others round a third place -/
theorem thin (t : List Nat) : ∀ u v a w, w ∈ path t u v → w ∈ path t u a ∨ w ∈ path t a v := by
  intro u v a
  induction hn : u + v + a using Nat.strongRecOn generalizing u v a with
  | ind n ih =>
    intro w hw
    have pu : 0 < u → par t u < u := par_lt t
    have pv : 0 < v → par t v < v := par_lt t
    have pa : 0 < a → par t a < a := par_lt t
    by_cases e1 : u = a
    · subst e1; exact .inr hw
    by_cases e2 : v = a
    · subst e2; exact .inl hw
    by_cases e3 : u = v
    · subst e3
      rw [path_self, List.mem_singleton] at hw
      subst hw
      exact .inl path_left
    by_cases hu : v < u ∧ a < u
    · rw [path_gt hu.1, List.mem_cons] at hw
      rw [path_gt hu.2, List.mem_cons]
      rcases hw with h | h
      · exact .inl (.inl h)
      · rcases ih (par t u + v + a) (by have := pu (by omega); omega) (par t u) v a rfl w h with h | h
        · exact .inl (.inr h)
        · exact .inr h
    by_cases hv : u < v ∧ a < v
    · rw [path_lt hv.1, List.mem_append, List.mem_singleton] at hw
      rw [path_lt hv.2, List.mem_append, List.mem_singleton]
      rcases hw with h | h
      · rcases ih (u + par t v + a) (by have := pv (by omega); omega) u (par t v) a rfl w h with h | h
        · exact .inl h
        · exact .inr (.inl h)
      · exact .inr (.inr h)
    have ha : u < a ∧ v < a := by omega
    rw [path_lt ha.1, path_gt ha.2, List.mem_append]
    rcases ih (u + v + par t a) (by have := pa (by omega); omega) u v (par t a) rfl w hw with h | h
    · exact Or.inl (Or.inl h)
    · exact Or.inr (List.mem_cons_of_mem _ h)
end
/-! ### convex sets -/
def Conv (t : List Nat) (S : Nat → Prop) : Prop := ∀ x y, S x → S y → ∀ z ∈ path t x y, S z
theorem conv_union {t : List Nat} {a : Nat} {ys : List Nat} : Conv t fun z => ∃ y ∈ ys, z ∈ path t a y := by
  rintro x1 x2 ⟨y1, h1, p1⟩ ⟨y2, h2, p2⟩ z hz
  rcases thin t x1 x2 a z hz with h | h
  · exact ⟨y1, h1, path_sub p1 (path_comm.mp h)⟩
  · exact ⟨y2, h2, path_sub p2 h⟩
/-- places that rise -/
abbrev Rises (p : List Nat) : Prop := p.Pairwise (· < ·)
/-- a branch: rising, each but the first hangs on one of it -/
def Hangs (t : List Nat) (p : List Nat) : Prop := Rises p ∧ p ≠ [] ∧ (∀ v ∈ p, v ≤ t.length) ∧ ∀ v ∈ p.tail, par t v ∈ p
theorem rises_head {m : Nat} {r : List Nat} (h : Rises (m :: r)) : ∀ v ∈ m :: r, m ≤ v := by
  intro v hv
  rcases List.mem_cons.mp hv with e | e
  · omega
  · exact Nat.le_of_lt (List.rel_of_pairwise_cons h e)
theorem hangs_conv {t p : List Nat} (h : Hangs t p) : Conv t (· ∈ p) := by
  obtain ⟨hr, hne, hb, hp⟩ := h
  obtain ⟨m, r, rfl⟩ := List.exists_cons_of_ne_nil hne
  have step : ∀ v, v ∈ m :: r → ∀ u ∈ m :: r, u < v → par t v ∈ m :: r := by
    intro v hv u hu huv
    have h1 := rises_head hr u hu
    rcases List.mem_cons.mp hv with e | e
    · omega
    · exact hp v e
  refine two_ind t (motive := fun x y => x ∈ m :: r → y ∈ m :: r → ∀ z ∈ path t x y, z ∈ m :: r) (fun x hx _ z hz => ?_) (fun x y h ih hx hy z hz => ?_) (fun x y h ih hx hy z hz => ?_)
  · rw [path_self, List.mem_singleton] at hz; subst hz; exact hx
  · rw [path_gt h] at hz
    rcases List.mem_cons.mp hz with e | e
    · rw [e]; exact hx
    · exact ih (step x hx y hy h) hy z e
  · rw [path_lt h] at hz
    rcases List.mem_append.mp hz with e | e
    · exact ih hx (step y hy x hx h) z e
    · rw [List.mem_singleton] at e; rw [e]; exact hy
theorem conv_hangs {t p : List Nat} (hr : Rises p) (hne : p ≠ []) (hb : ∀ v ∈ p, v ≤ t.length) (h : Conv t (· ∈ p)) : Hangs t p := by
  refine ⟨hr, hne, hb, fun v hv => ?_⟩
  obtain ⟨m, r, rfl⟩ := List.exists_cons_of_ne_nil hne
  have hv' : v ∈ r := hv
  have hm : m < v := List.rel_of_pairwise_cons hr hv'
  refine h v m (List.mem_cons_of_mem _ hv') List.mem_cons_self _ ?_
  rw [path_gt hm]
  exact List.mem_cons_of_mem _ path_left
/-! ### the way down, and the program's way -/
def anc (t : List Nat) (v : Nat) : List Nat := if v = 0 then [0] else v :: anc t (par t v)
termination_by v
decreasing_by exact par_lt t (by omega)
theorem anc_zero (t : List Nat) : anc t 0 = [0] := by rw [anc, if_pos rfl]
theorem anc_pos (t : List Nat) {v : Nat} (h : 0 < v) : anc t v = v :: anc t (par t v) := by rw [anc, if_neg (by omega)]
theorem anc_head (t : List Nat) (v : Nat) : ∃ r, anc t v = v :: r := by
  by_cases h : v = 0
  · subst h; exact ⟨[], anc_zero t⟩
  · exact ⟨_, anc_pos t (by omega)⟩
theorem anc_le (t : List Nat) : ∀ v, ∀ z ∈ anc t v, z ≤ v := by
  intro v
  induction v using Nat.strongRecOn with
  | ind v ih =>
    intro z hz
    by_cases h : v = 0
    · subst h; rw [anc_zero, List.mem_singleton] at hz; omega
    · rw [anc_pos t (by omega), List.mem_cons] at hz
      have := par_lt t (v := v) (by omega)
      rcases hz with e | e
      · omega
      · have := ih _ this z e; omega
theorem anc_root (t : List Nat) : ∀ v, 0 ∈ anc t v := by
  intro v
  induction v using Nat.strongRecOn with
  | ind v ih =>
    by_cases h : v = 0
    · subst h; rw [anc_zero]; simp
    · rw [anc_pos t (by omega)]
      exact List.mem_cons_of_mem _ (ih _ (par_lt t (by omega)))
theorem anc_nodup (t : List Nat) : ∀ v, (anc t v).Nodup := by
  intro v
  induction v using Nat.strongRecOn with
  | ind v ih =>
    by_cases h : v = 0
    · subst h; rw [anc_zero]; simp
    · rw [anc_pos t (by omega), List.nodup_cons]
      have hl := par_lt t (v := v) (by omega)
      exact ⟨fun hm => by have := anc_le t _ _ hm; omega, ih _ hl⟩
/-- what the program does with the two ways down: i, j are the numbers of the meeting place in both -/
theorem steps_path (t : List Nat) : ∀ x y (m i j : Nat), ((anc t x).filter fun z => decide (z ∈ anc t y)).head? = some m → (anc t x)[i]? = some m → (anc t y)[j]? = some m →
    (anc t x).take i ++ [m] ++ ((anc t y).take j).reverse = path t x y := by
  refine two_ind t (fun x m i j h0 hi hj => ?_) (fun x y h ih m i j h0 hi hj => ?_) (fun x y h ih m i j h0 hi hj => ?_)
  · obtain ⟨r, hr⟩ := anc_head t x
    have nd := anc_nodup t x
    have hm : m = x := by
      rw [hr, List.filter_cons, if_pos (by simp)] at h0
      simpa using h0.symm
    subst hm
    rw [hr] at hi hj nd ⊢
    have z : ∀ k : Nat, (m :: r)[k]? = some m → k = 0 := by
      intro k hk
      cases k with
      | zero => rfl
      | succ k =>
        have : m ∈ r := List.mem_of_getElem? (by simpa using hk)
        exact absurd this (List.nodup_cons.mp nd).1
    rw [z i hi, z j hj, path_self]
    rfl
  · have hx : 0 < x := by omega
    have ea := anc_pos t hx
    rw [ea, List.filter_cons, if_neg (by simp only [decide_eq_true_eq]; intro hm; have := anc_le t _ _ hm; omega)] at h0
    rw [ea] at hi
    have hmx : m ≠ x := by
      intro e
      have h1 : m ∈ List.filter (fun z => decide (z ∈ anc t y)) (anc t (par t x)) := List.mem_of_mem_head? (by rw [h0]; exact rfl)
      have h2 := anc_le t _ _ (List.mem_filter.mp h1).1
      have := par_lt t hx
      omega
    cases i with
    | zero =>
      have : x = m := by simpa using hi
      omega
    | succ i =>
      have hi' : (anc t (par t x))[i]? = some m := by simpa using hi
      rw [ea, path_gt h, ← ih m i j h0 hi' hj]
      rfl
  · have hy : 0 < y := by omega
    have ea := anc_pos t hy
    have e0 : (anc t x).filter (fun z => decide (z ∈ anc t y)) = (anc t x).filter fun z => decide (z ∈ anc t (par t y)) := by
      refine List.filter_congr fun z hz => ?_
      have hz' := anc_le t _ _ hz
      rw [ea]
      simp only [List.mem_cons, decide_eq_decide]
      constructor
      · rintro (e | e)
        · omega
        · exact e
      · exact .inr
    rw [e0] at h0
    rw [ea] at hj
    have hmy : m ≠ y := by
      intro e
      have h1 : m ∈ List.filter (fun z => decide (z ∈ anc t (par t y))) (anc t x) := List.mem_of_mem_head? (by rw [h0]; exact rfl)
      have h2 := anc_le t _ _ (List.mem_filter.mp h1).1
      omega
    cases j with
    | zero =>
      have : y = m := by simpa using hj
      omega
    | succ j =>
      have hj' : (anc t (par t y))[j]? = some m := by simpa using hj
      rw [ea, path_lt h, ← ih m i j h0 hi hj']
      simp
/-! ### steps of a way -/
theorem path_head (t : List Nat) : ∀ x y, (path t x y).head? = some x := by
  refine two_ind t (fun x => by rw [path_self]; rfl) (fun x y h ih => by rw [path_gt h]; rfl) (fun x y h ih => ?_)
  rw [path_lt h, List.head?_append, ih]; rfl
theorem path_last (t : List Nat) : ∀ x y, (path t x y).getLast? = some y := by
  refine two_ind t (fun x => by rw [path_self]; rfl) (fun x y h ih => ?_) (fun x y h ih => by rw [path_lt h]; simp)
  rw [path_gt h, List.getLast?_cons, ih]; rfl
theorem dist_par (t : List Nat) {x : Nat} (h : 0 < x) : dist t x (par t x) = 1 := by
  rw [dist_gt (par_lt t h), dist_self]
theorem path_step (t : List Nat) : ∀ x y (i a b : Nat), (path t x y)[i]? = some a → (path t x y)[i + 1]? = some b → dist t a b ≤ 1 := by
  refine two_ind t (fun x i a b h1 h2 => ?_) (fun x y h ih i a b h1 h2 => ?_) (fun x y h ih i a b h1 h2 => ?_)
  · rw [path_self] at h2; simp at h2
  · rw [path_gt h] at h1 h2
    cases i with
    | zero =>
      have e1 : x = a := by simpa using h1
      have e2 := path_head t (par t x) y
      rw [List.head?_eq_getElem?] at e2
      have e3 : (path t (par t x) y)[0]? = some b := by simpa using h2
      rw [e2] at e3
      cases e3
      subst e1
      rw [dist_par t (by omega)]; exact Nat.le_refl 1
    | succ i => exact ih i a b (by simpa using h1) (by simpa using h2)
  · rw [path_lt h] at h1 h2
    by_cases hi : i + 1 < (path t x (par t y)).length
    · rw [List.getElem?_append_left hi] at h2
      rw [List.getElem?_append_left (by omega)] at h1
      exact ih i a b h1 h2
    · by_cases hi2 : i + 1 = (path t x (par t y)).length
      · have h2' : y = b := by
          rw [List.getElem?_append_right (by omega), hi2] at h2
          simpa using h2
        rw [List.getElem?_append_left (by omega)] at h1
        have e := path_last t x (par t y)
        rw [List.getLast?_eq_getElem?, ← hi2] at e
        have e2 : (path t x (par t y))[i]? = some (par t y) := by simpa using e
        rw [h1] at e2
        cases e2
        subst h2'
        rw [dist_comm, dist_par t (by omega)]; exact Nat.le_refl 1
      · rw [List.getElem?_append_right (by omega)] at h2
        rw [show i + 1 - (path t x (par t y)).length = (i - (path t x (par t y)).length) + 1 by omega] at h2
        simp at h2
end Jr
set_option linter.all false
/-! Parts of worlds: gaps, hulls, spans by levels, families that are closed. -/
namespace Jr
/-! ### the least of a list -/
def gap (t A B : List Nat) : Nat := ((A.flatMap fun a => B.map fun b => dist t a b).min?).getD 0
section
variable {t A B C : List Nat}
theorem gap_spec (hA : A ≠ []) (hB : B ≠ []) : (∃ a ∈ A, ∃ b ∈ B, dist t a b = gap t A B) ∧ ∀ a ∈ A, ∀ b ∈ B, gap t A B ≤ dist t a b := by
  obtain ⟨a0, ra, rfl⟩ := List.exists_cons_of_ne_nil hA
  obtain ⟨b0, rb, rfl⟩ := List.exists_cons_of_ne_nil hB
  have hm : ∃ m, ((a0 :: ra).flatMap fun a => (b0 :: rb).map fun b => dist t a b).min? = some m := by
    rw [List.flatMap_cons, List.map_cons, List.cons_append, List.min?_cons]
    exact ⟨_, rfl⟩
  obtain ⟨m, hm⟩ := hm
  have e : gap t (a0 :: ra) (b0 :: rb) = m := by unfold gap; rw [hm]; rfl
  obtain ⟨h1, h2⟩ := List.min?_eq_some_iff.mp hm
  rw [e]
  refine ⟨?_, fun a ha b hb => h2 _ (List.mem_flatMap.mpr ⟨a, ha, List.mem_map.mpr ⟨b, hb, rfl⟩⟩)⟩
  obtain ⟨a, ha, h⟩ := List.mem_flatMap.mp h1
  obtain ⟨b, hb, h⟩ := List.mem_map.mp h
  exact ⟨a, ha, b, hb, h⟩
theorem gap_le {a b : Nat} (ha : a ∈ A) (hb : b ∈ B) : gap t A B ≤ dist t a b := (gap_spec (List.ne_nil_of_mem ha) (List.ne_nil_of_mem hb)).2 a ha b hb
theorem gap_at (hA : A ≠ []) (hB : B ≠ []) : ∃ a ∈ A, ∃ b ∈ B, dist t a b = gap t A B := (gap_spec hA hB).1
theorem gap_uniq {d : Nat} (hA : A ≠ []) (hB : B ≠ []) (h1 : ∃ a ∈ A, ∃ b ∈ B, dist t a b = d) (h2 : ∀ a ∈ A, ∀ b ∈ B, d ≤ dist t a b) : d = gap t A B := by
  obtain ⟨a, ha, b, hb, e⟩ := h1
  obtain ⟨a', ha', b', hb', e'⟩ := gap_at (t := t) hA hB
  have q1 := gap_le (t := t) ha hb
  have q2 := h2 a' ha' b' hb'
  omega
theorem gap_comm (hA : A ≠ []) (hB : B ≠ []) : gap t A B = gap t B A := by
  refine gap_uniq hB hA ?_ fun b hb a ha => by rw [dist_comm]; exact gap_le ha hb
  obtain ⟨a, ha, b, hb, e⟩ := gap_at (t := t) hA hB
  exact ⟨b, hb, a, ha, by rw [dist_comm]; exact e⟩
theorem gap_mono {A' B' : List Nat} (hA : A ≠ []) (hB : B ≠ []) (h1 : ∀ x ∈ A, x ∈ A') (h2 : ∀ x ∈ B, x ∈ B') : gap t A' B' ≤ gap t A B := by
  obtain ⟨a, ha, b, hb, e⟩ := gap_at (t := t) hA hB
  rw [← e]
  exact gap_le (h1 a ha) (h2 b hb)
theorem gap_one (t : List Nat) (x y : Nat) : gap t [x] [y] = dist t x y := by
  symm
  exact gap_uniq (by simp) (by simp) ⟨x, by simp, y, by simp, rfl⟩ fun a ha b hb => by
    rw [List.mem_singleton] at ha hb; rw [ha, hb]; exact Nat.le_refl _
/-- how far a place is from a branch: by one tie no more than one less -/
theorem gap_lip {x y : Nat} (hA : A ≠ []) : gap t [x] A ≤ gap t [y] A + dist t x y := by
  obtain ⟨y', hy, a, ha, e⟩ := gap_at (t := t) (A := [y]) (by simp) hA
  rw [List.mem_singleton] at hy
  subst hy
  have q := gap_le (t := t) (A := [x]) (B := A) (List.mem_singleton.mpr rfl) ha
  have q2 := tri t x y' a
  omega
end
/-! ### parts -/
abbrev Trs := List (List Nat)
abbrev Prt := List (List Nat)
def Pok : Trs → Prt → Prop
  | [], [] => True
  | t :: ts, b :: P => Hangs t b ∧ Pok ts P
  | _, _ => False
def Inn : Prt → Prt → Prop
  | [], [] => True
  | a :: P, b :: Q => (∀ x ∈ a, x ∈ b) ∧ Inn P Q
  | _, _ => False
def far : Trs → Prt → Prt → Nat
  | t :: ts, a :: P, b :: Q => gap t a b + far ts P Q
  | _, _, _ => 0
def IsHull : Trs → Prt → Prt → Prt → Prop
  | [], [], [], [] => True
  | t :: ts, a :: P, b :: Q, h :: H => (Rises h ∧ ∀ z, z ∈ h ↔ ∃ y ∈ a ++ b, z ∈ path t ((a ++ b).headD 0) y) ∧ IsHull ts P Q H
  | _, _, _, _ => False
/-- levels of trees, that change by one at most from place to place -/
def Lip : Trs → List (Nat → Nat) → Prop
  | [], [] => True
  | t :: ts, l :: ls => (∀ x y, l x ≤ l y + dist t x y) ∧ Lip ts ls
  | _, _ => False
/-- the levels of a part span so much at most -/
def Spn : List (Nat → Nat) → Prt → Nat → Prop
  | [], [], _ => True
  | l :: ls, b :: P, c => ∃ c1 c2, (∀ x ∈ b, ∀ y ∈ b, l x ≤ l y + c1) ∧ Spn ls P c2 ∧ c1 + c2 ≤ c
  | _, _, _ => False
theorem hangs_ne {t b : List Nat} (h : Hangs t b) : b ≠ [] := h.2.1
theorem Pok.len : ∀ {ts : Trs} {P : Prt}, Pok ts P → P.length = ts.length
  | [], [], _ => rfl
  | _ :: ts, _ :: P, h => by rw [List.length_cons, List.length_cons, Pok.len h.2]
  | [], _ :: _, h => h.elim
  | _ :: _, [], h => h.elim
theorem Inn.refl : ∀ P : Prt, Inn P P
  | [] => trivial
  | _ :: P => ⟨fun _ h => h, Inn.refl P⟩
theorem Inn.trans : ∀ {P Q R : Prt}, Inn P Q → Inn Q R → Inn P R
  | [], [], [], _, _ => trivial
  | _ :: P, _ :: Q, _ :: R, h, h' => ⟨fun x hx => h'.1 x (h.1 x hx), Inn.trans h.2 h'.2⟩
  | [], _ :: _, _, h, _ => h.elim
  | _ :: _, [], _, h, _ => h.elim
  | [], [], _ :: _, _, h => h.elim
  | _ :: _, _ :: _, [], _, h => h.elim
theorem far_comm : ∀ {ts : Trs} {P Q : Prt}, Pok ts P → Pok ts Q → far ts P Q = far ts Q P
  | [], [], [], _, _ => rfl
  | t :: ts, a :: P, b :: Q, h, h' => by
    show gap t a b + far ts P Q = gap t b a + far ts Q P
    rw [gap_comm (hangs_ne h.1) (hangs_ne h'.1), far_comm h.2 h'.2]
  | [], _ :: _, _, h, _ => h.elim
  | _ :: _, [], _, h, _ => h.elim
  | [], [], _ :: _, _, h => h.elim
  | _ :: _, _ :: _, [], _, h => h.elim
theorem far_mono : ∀ {ts : Trs} {P Q P' Q' : Prt}, Pok ts P → Pok ts Q → Inn P P' → Inn Q Q' → far ts P' Q' ≤ far ts P Q
  | [], [], [], [], [], _, _, _, _ => Nat.le_refl _
  | t :: ts, a :: P, b :: Q, a' :: P', b' :: Q', h, h', i, i' => by
    show gap t a' b' + far ts P' Q' ≤ gap t a b + far ts P Q
    have q1 := gap_mono (t := t) (hangs_ne h.1) (hangs_ne h'.1) i.1 i'.1
    have q2 := far_mono h.2 h'.2 i.2 i'.2
    omega
  | [], _ :: _, _, _, _, h, _, _, _ => h.elim
  | _ :: _, [], _, _, _, h, _, _, _ => h.elim
  | [], [], _ :: _, _, _, _, h, _, _ => h.elim
  | _ :: _, _ :: _, [], _, _, _, h, _, _ => h.elim
  | [], [], [], _ :: _, _, _, _, h, _ => h.elim
  | [], [], [], [], _ :: _, _, _, _, h => h.elim
  | _ :: _, _ :: _, _ :: _, [], _, _, _, h, _ => h.elim
  | _ :: _, _ :: _, _ :: _, _ :: _, [], _, _, _, h => h.elim
theorem hull_ok : ∀ {ts : Trs} {P Q H : Prt}, Pok ts P → Pok ts Q → IsHull ts P Q H → Pok ts H ∧ Inn P H ∧ Inn Q H
  | [], [], [], [], _, _, _ => ⟨trivial, trivial, trivial⟩
  | t :: ts, a :: P, b :: Q, h :: H, hp, hq, hh => by
    obtain ⟨⟨hr, hm⟩, hrest⟩ := hh
    obtain ⟨k1, k2, k3⟩ := hull_ok hp.2 hq.2 hrest
    have i1 : ∀ x ∈ a, x ∈ h := fun x hx => (hm x).mpr ⟨x, List.mem_append_left _ hx, path_right⟩
    have i2 : ∀ x ∈ b, x ∈ h := fun x hx => (hm x).mpr ⟨x, List.mem_append_right _ hx, path_right⟩
    have bd : ∀ y ∈ a ++ b, y ≤ t.length := fun y hy => (List.mem_append.mp hy).elim (hp.1.2.2.1 y) (hq.1.2.2.1 y)
    have hd : (a ++ b).headD 0 ≤ t.length := by
      cases e : a ++ b with
      | nil => exact Nat.zero_le _
      | cons x r => exact bd x (by rw [e]; exact List.mem_cons_self)
    refine ⟨⟨conv_hangs hr ?_ (fun v hv => ?_) (fun x y hx hy z hz => ?_), k1⟩, ⟨i1, k2⟩, ⟨i2, k3⟩⟩
    · obtain ⟨x, hx⟩ := List.exists_mem_of_ne_nil _ (hangs_ne hp.1)
      exact List.ne_nil_of_mem (i1 x hx)
    · obtain ⟨y, hy, p⟩ := (hm v).mp hv
      have := bd y hy
      rcases mem_path_le p with q | q <;> omega
    · exact (hm z).mpr (conv_union x y ((hm x).mp hx) ((hm y).mp hy) z hz)
  | [], _ :: _, _, _, h, _, _ => h.elim
  | _ :: _, [], _, _, h, _, _ => h.elim
  | [], [], _ :: _, _, _, h, _ => h.elim
  | _ :: _, _ :: _, [], _, _, h, _ => h.elim
  | [], [], [], _ :: _, _, _, h => h.elim
  | _ :: _, _ :: _, _ :: _, [], _, _, h => h.elim
/-- whatever is on the hull of two branches is of one or on a shortest way between them -/
theorem hull_near {t a b : List Nat} (ha : Hangs t a) (hb : Hangs t b) : ∃ p ∈ a, ∃ q ∈ b, dist t p q = gap t a b ∧ ∀ y ∈ a ++ b, ∀ z ∈ path t ((a ++ b).headD 0) y, z ∈ a ∨ z ∈ b ∨ z ∈ path t p q := by
  obtain ⟨p, hp, q, hq, e⟩ := gap_at (t := t) (hangs_ne ha) (hangs_ne hb)
  refine ⟨p, hp, q, hq, e, fun y hy z hz => ?_⟩
  have hf : (a ++ b).headD 0 ∈ a := by
    obtain ⟨m, r, e⟩ := List.exists_cons_of_ne_nil (hangs_ne ha)
    rw [e]; exact List.mem_cons_self
  generalize (a ++ b).headD 0 = f at hz hf
  rcases List.mem_append.mp hy with h | h
  · exact .inl (hangs_conv ha f y hf h z hz)
  · rcases thin t f y p z hz with h1 | h1
    · exact .inl (hangs_conv ha f p hf hp z h1)
    · rcases thin t p y q z h1 with h2 | h2
      · exact .inr (.inr h2)
      · exact .inr (.inl (hangs_conv hb q y hq h z h2))
/-- a hull spans no more than both and the gap -/
theorem spn_hull : ∀ {ts : Trs} {ls : List (Nat → Nat)} {P Q H : Prt} {c d : Nat}, Lip ts ls → Pok ts P → Pok ts Q → IsHull ts P Q H → Spn ls P c → Spn ls Q d → Spn ls H (c + d + far ts P Q)
  | [], [], [], [], [], _, _, _, _, _, _, _, _ => trivial
  | t :: ts, l :: ls, a :: P, b :: Q, h :: H, c, d, hl, hp, hq, hh, sp, sq => by
    obtain ⟨c1, c2, k1, k2, k3⟩ := sp
    obtain ⟨d1, d2, j1, j2, j3⟩ := sq
    obtain ⟨⟨hr, hm⟩, hrest⟩ := hh
    have rest := spn_hull hl.2 hp.2 hq.2 hrest k2 j2
    obtain ⟨p, hpa, q, hqb, e, near⟩ := hull_near hp.1 hq.1
    refine ⟨c1 + d1 + gap t a b, _, fun x hx y hy => ?_, rest, ?_⟩
    · have lip := hl.1
      have pq := lip p q
      have qp := lip q p
      rw [dist_comm q p] at qp
      obtain ⟨y1, hy1, p1⟩ := (hm x).mp hx
      obtain ⟨y2, hy2, p2⟩ := (hm y).mp hy
      have on : ∀ z, z ∈ path t p q → dist t p z + dist t z q = dist t p q := fun z hz => (mem_path_iff t p q z).mp hz
      rcases near y1 hy1 x p1 with hx | hx | hx <;> rcases near y2 hy2 y p2 with hy | hy | hy
      · have := k1 x hx y hy; omega
      · have := k1 x hx p hpa; have := j1 q hqb y hy; omega
      · have := k1 x hx p hpa; have := lip p y; have := on y hy; omega
      · have := j1 x hx q hqb; have := k1 p hpa y hy; omega
      · have := j1 x hx y hy; omega
      · have := j1 x hx q hqb; have := lip q y; have := on y hy; rw [dist_comm q y] at *; omega
      · have := lip x p; have := k1 p hpa y hy; have := on x hx; rw [dist_comm x p] at *; omega
      · have := lip x q; have := j1 q hqb y hy; have := on x hx; omega
      · have h1 := on x hx
        have h2 := on y hy
        have h3 := lip x p
        have h4 := lip p y
        have h5 := lip x q
        have h6 := lip q y
        rw [dist_comm x p] at h3
        rw [dist_comm q y] at h6
        omega
    · show c1 + d1 + gap t a b + (c2 + d2 + far ts P Q) ≤ c + d + (gap t a b + far ts P Q)
      omega
  | [], _ :: _, _, _, _, _, _, h, _, _, _, _, _ => h.elim
  | _ :: _, [], _, _, _, _, _, h, _, _, _, _, _ => h.elim
  | [], [], _ :: _, _, _, _, _, _, h, _, _, _, _ => h.elim
  | _ :: _, _ :: _, [], _, _, _, _, _, h, _, _, _, _ => h.elim
  | [], [], [], _ :: _, _, _, _, _, _, h, _, _, _ => h.elim
  | _ :: _, _ :: _, _ :: _, [], _, _, _, _, _, h, _, _, _ => h.elim
  | [], [], [], [], _ :: _, _, _, _, _, _, h, _, _ => h.elim
  | _ :: _, _ :: _, _ :: _, _ :: _, [], _, _, _, _, _, h, _, _ => h.elim
/-! ### the levels between two parts -/
def lvl (t A B : List Nat) (x : Nat) : Nat := min (gap t [x] A) (gap t A B)
def lvls : Trs → Prt → Prt → List (Nat → Nat)
  | t :: ts, a :: P, b :: Q => lvl t a b :: lvls ts P Q
  | _, _, _ => []
theorem lvls_lip : ∀ {ts : Trs} {P Q : Prt}, Pok ts P → Pok ts Q → Lip ts (lvls ts P Q)
  | [], [], [], _, _ => trivial
  | t :: ts, a :: P, b :: Q, h, h' => by
    refine ⟨fun x y => ?_, lvls_lip h.2 h'.2⟩
    have := gap_lip (t := t) (x := x) (y := y) (hangs_ne h.1)
    show min (gap t [x] a) (gap t a b) ≤ min (gap t [y] a) (gap t a b) + dist t x y
    omega
  | [], _ :: _, _, h, _ => h.elim
  | _ :: _, [], _, h, _ => h.elim
  | [], [], _ :: _, _, h => h.elim
  | _ :: _, _ :: _, [], _, h => h.elim
theorem lvl_a {t a b : List Nat} {x : Nat} (hx : x ∈ a) : lvl t a b x = 0 := by
  have q := gap_le (t := t) (A := [x]) (B := a) (List.mem_singleton.mpr rfl) hx
  rw [dist_self] at q
  unfold lvl
  omega
theorem lvl_b {t a b : List Nat} {x : Nat} (ha : a ≠ []) (hx : x ∈ b) : lvl t a b x = gap t a b := by
  obtain ⟨y, hy, z, hz, e⟩ := gap_at (t := t) (A := [x]) (by simp) ha
  rw [List.mem_singleton] at hy
  subst hy
  have q := gap_le (t := t) hz hx
  rw [dist_comm] at q
  unfold lvl
  omega
theorem spn_a : ∀ {ts : Trs} {P Q : Prt}, Pok ts P → Pok ts Q → Spn (lvls ts P Q) P 0
  | [], [], [], _, _ => trivial
  | t :: ts, a :: P, b :: Q, h, h' => ⟨0, 0, fun x hx y hy => by rw [lvl_a hx, lvl_a hy]; exact Nat.le_refl _, spn_a h.2 h'.2, Nat.le_refl _⟩
  | [], _ :: _, _, h, _ => h.elim
  | _ :: _, [], _, h, _ => h.elim
  | [], [], _ :: _, _, h => h.elim
  | _ :: _, _ :: _, [], _, h => h.elim
theorem spn_b : ∀ {ts : Trs} {P Q : Prt}, Pok ts P → Pok ts Q → Spn (lvls ts P Q) Q 0
  | [], [], [], _, _ => trivial
  | t :: ts, a :: P, b :: Q, h, h' => ⟨0, 0, fun x hx y hy => by rw [lvl_b (hangs_ne h.1) hx, lvl_b (hangs_ne h.1) hy]; exact Nat.le_refl _, spn_b h.2 h'.2, Nat.le_refl _⟩
  | [], _ :: _, _, h, _ => h.elim
  | _ :: _, [], _, h, _ => h.elim
  | [], [], _ :: _, _, h => h.elim
  | _ :: _, _ :: _, [], _, h => h.elim
/-- the part of one spot -/
def one (s : List Nat) : Prt := s.map fun x => [x]
theorem spn_one : ∀ {ls : List (Nat → Nat)} {s : List Nat}, s.length = ls.length → Spn ls (one s) 0
  | [], [], _ => trivial
  | l :: ls, x :: s, h => ⟨0, 0, fun a ha b hb => by
      have e1 : a = x := by simpa using ha
      have e2 : b = x := by simpa using hb
      rw [e1, e2]; exact Nat.le_refl _, spn_one (by simpa using h), Nat.le_refl _⟩
  | [], _ :: _, h => by simp at h
  | _ :: _, [], h => by simp at h
theorem lvls_len : ∀ {ts : Trs} {P Q : Prt}, Pok ts P → Pok ts Q → (lvls ts P Q).length = ts.length
  | [], [], [], _, _ => rfl
  | t :: ts, a :: P, b :: Q, h, h' => by
    show (lvls ts P Q).length + 1 = ts.length + 1
    rw [lvls_len h.2 h'.2]
  | [], _ :: _, _, h, _ => h.elim
  | _ :: _, [], _, h, _ => h.elim
  | [], [], _ :: _, _, h => h.elim
  | _ :: _, _ :: _, [], _, h => h.elim
/-- what has both spans as much as they are apart -/
theorem spn_far : ∀ {ts : Trs} {P Q M : Prt} {c : Nat}, Pok ts P → Pok ts Q → Inn P M → Inn Q M → Spn (lvls ts P Q) M c → far ts P Q ≤ c
  | [], [], [], [], c, _, _, _, _, _ => Nat.zero_le _
  | t :: ts, a :: P, b :: Q, m :: M, c, h, h', i, i', s => by
    obtain ⟨c1, c2, k1, k2, k3⟩ := s
    have q := spn_far h.2 h'.2 i.2 i'.2 k2
    obtain ⟨x, hx⟩ := List.exists_mem_of_ne_nil _ (hangs_ne h.1)
    obtain ⟨y, hy⟩ := List.exists_mem_of_ne_nil _ (hangs_ne h'.1)
    have q2 := k1 y (i'.1 y hy) x (i.1 x hx)
    rw [lvl_a hx, lvl_b (hangs_ne h.1) hy] at q2
    show gap t a b + far ts P Q ≤ c
    omega
  | [], _ :: _, _, _, _, h, _, _, _, _ => h.elim
  | _ :: _, [], _, _, _, h, _, _, _, _ => h.elim
  | [], [], _ :: _, _, _, _, h, _, _, _ => h.elim
  | _ :: _, _ :: _, [], _, _, _, h, _, _, _ => h.elim
  | [], [], [], _ :: _, _, _, _, h, _, _ => h.elim
  | _ :: _, _ :: _, _ :: _, [], _, _, _, h, _, _ => h.elim
/-! ### what all weigh -/
def Tot (ls : List (Nat → Nat)) (R : Nat) : List Prt → Nat → Prop
  | [], _ => True
  | p :: l, S => ∃ c S', Spn ls p c ∧ Tot ls R l S' ∧ c + R + S' ≤ S
section
variable {ls : List (Nat → Nat)} {R : Nat}
theorem Tot.mono : ∀ {l : List Prt} {S S' : Nat}, Tot ls R l S → S ≤ S' → Tot ls R l S'
  | [], _, _, _, _ => trivial
  | p :: l, S, S', ⟨c, S0, h1, h2, h3⟩, h => ⟨c, S0, h1, h2, by omega⟩
theorem Tot.app : ∀ {l l' : List Prt} {S : Nat}, Tot ls R (l ++ l') S ↔ ∃ S1 S2, Tot ls R l S1 ∧ Tot ls R l' S2 ∧ S1 + S2 ≤ S
  | [], l', S => ⟨fun h => ⟨0, S, trivial, h, by omega⟩, fun ⟨S1, S2, _, h, q⟩ => Tot.mono h (by omega)⟩
  | p :: l, l', S => by
    constructor
    · rintro ⟨c, S', h1, h2, h3⟩
      obtain ⟨S1, S2, k1, k2, k3⟩ := Tot.app.mp h2
      exact ⟨c + R + S1, S2, ⟨c, S1, h1, k1, Nat.le_refl _⟩, k2, by omega⟩
    · rintro ⟨S1, S2, ⟨c, S', h1, h2, h3⟩, k2, k3⟩
      exact ⟨c, S' + S2, h1, Tot.app.mpr ⟨S', S2, h2, k2, Nat.le_refl _⟩, by omega⟩
theorem Tot.perm {l l' : List Prt} (p : l.Perm l') : ∀ {S : Nat}, Tot ls R l S → Tot ls R l' S := by
  induction p with
  | nil => exact fun h => h
  | cons x _ ih => exact fun ⟨c, S', h1, h2, h3⟩ => ⟨c, S', h1, ih h2, h3⟩
  | swap x y l => exact fun ⟨c, S', h1, ⟨c', S'', k1, k2, k3⟩, h3⟩ => ⟨c', c + R + S'', k1, ⟨c, S'', h1, k2, Nat.le_refl _⟩, by omega⟩
  | trans _ _ ih1 ih2 => exact fun h => ih2 (ih1 h)
theorem Tot.mem : ∀ {l : List Prt} {S : Nat} {p : Prt}, p ∈ l → Tot ls R l S → ∃ c, Spn ls p c ∧ c + R ≤ S
  | [], _, _, h, _ => by simp at h
  | q :: l, S, p, h, ⟨c, S', h1, h2, h3⟩ => by
    rcases List.mem_cons.mp h with e | e
    · subst e; exact ⟨c, h1, by omega⟩
    · obtain ⟨c', k1, k2⟩ := Tot.mem e h2
      exact ⟨c', k1, by omega⟩
theorem Tot.ones : ∀ {l : List (List Nat)}, (∀ s ∈ l, s.length = ls.length) → Tot ls R (l.map one) (l.length * R)
  | [], _ => trivial
  | s :: l, h => ⟨0, l.length * R, spn_one (h s List.mem_cons_self), Tot.ones fun s' hs' => h s' (List.mem_cons_of_mem _ hs'), by
      rw [List.length_cons, Nat.succ_mul]; omega⟩
end
/-- each near the next -/
def NearR (ts : Trs) (R : Nat) : List Prt → Prop
  | A :: B :: l => far ts A B ≤ R ∧ NearR ts R (B :: l)
  | _ => True
/-! ### closed families -/
structure Clo (ts : Trs) (R : Nat) (ps kin : List Prt) : Prop where
  ok : ∀ M ∈ kin, Pok ts M
  apart : kin.Pairwise fun M N => R < far ts M N
  cov : ∀ p ∈ ps, ∃ M ∈ kin, Inn p M
  cost : ∀ ls, Lip ts ls → ∀ S, Tot ls R ps S → Tot ls R kin S
section
variable {ts : Trs} {R : Nat} {ps kin : List Prt}
theorem pw_mem {α : Type} {F : α → α → Prop} : ∀ {l : List α}, l.Pairwise F → ∀ {x y : α}, x ∈ l → y ∈ l → x = y ∨ F x y ∨ F y x
  | [], _, _, _, h, _ => by simp at h
  | a :: l, p, x, y, hx, hy => by
    rcases List.mem_cons.mp hx with e1 | e1 <;> rcases List.mem_cons.mp hy with e2 | e2
    · exact .inl (e1.trans e2.symm)
    · subst e1; exact .inr (.inl (List.rel_of_pairwise_cons p e2))
    · subst e2; exact .inr (.inr (List.rel_of_pairwise_cons p e1))
    · exact pw_mem (List.Pairwise.of_cons p) e1 e2
/-- what is near is in one -/
theorem Clo.same (C : Clo ts R ps kin) {M N P Q : Prt} (hM : M ∈ kin) (hN : N ∈ kin) (hP : Pok ts P) (hQ : Pok ts Q) (iP : Inn P M) (iQ : Inn Q N) (h : far ts P Q ≤ R) : M = N := by
  have q := far_mono hP hQ iP iQ
  rcases pw_mem C.apart hM hN with e | e | e
  · exact e
  · omega
  · rw [far_comm (C.ok N hN) (C.ok M hM)] at e; omega
/-- a row of parts each near the next lies in one -/
theorem Clo.chain (C : Clo ts R ps kin) (hok : ∀ p ∈ ps, Pok ts p) : ∀ {l : List Prt} {P Q M : Prt}, (∀ p ∈ l, p ∈ ps) → Pok ts P → M ∈ kin → Inn P M → Q ∈ ps → NearR ts R (P :: (l ++ [Q])) → Inn Q M
  | [], P, Q, M, _, hP, hM, iP, hQ, hc => by
    obtain ⟨N, hN, iQ⟩ := C.cov Q hQ
    have h : far ts P Q ≤ R := hc.1
    rw [C.same hM hN hP (hok Q hQ) iP iQ h]; exact iQ
  | A :: l, P, Q, M, hl, hP, hM, iP, hQ, hc => by
    have hA : A ∈ ps := hl A List.mem_cons_self
    obtain ⟨N, hN, iA⟩ := C.cov A hA
    have e := C.same hM hN hP (hok A hA) iP iA hc.1
    rw [e] at hM ⊢
    exact C.chain hok (fun p hp => hl p (List.mem_cons_of_mem _ hp)) (hok A hA) hM iA hQ hc.2
/-- who are together beside m spots are no more than so far apart -/
theorem Clo.few {P Q M : Prt} {spots : List (List Nat)} (C : Clo ts R (P :: Q :: spots.map one) kin) (hP : Pok ts P) (hQ : Pok ts Q) (hs : ∀ s ∈ spots, s.length = ts.length) (hM : M ∈ kin) (i1 : Inn P M) (i2 : Inn Q M) : far ts P Q ≤ (spots.length + 1) * R := by
  have T : Tot (lvls ts P Q) R (P :: Q :: spots.map one) ((spots.length + 2) * R) := by
    refine ⟨0, (spots.length + 1) * R, spn_a hP hQ, ⟨0, spots.length * R, spn_b hP hQ, Tot.ones fun s h => (hs s h).trans (lvls_len hP hQ).symm, ?_⟩, ?_⟩
    · rw [Nat.add_mul]; omega
    · rw [Nat.add_mul, Nat.add_mul]; omega
  obtain ⟨c, h1, h2⟩ := Tot.mem hM (C.cost _ (lvls_lip hP hQ) _ T)
  have q := spn_far hP hQ i1 i2 h1
  have e1 : (spots.length + 2) * R = (spots.length + 1) * R + R := by rw [show spots.length + 2 = (spots.length + 1) + 1 from rfl, Nat.succ_mul]
  omega
/-- .. a spot put in beside what stands -/
theorem Clo.few2 {P Q M : Prt} {s : List Nat} {kin2 : List Prt} (C : Clo ts R [P, Q] kin) (C2 : Clo ts R (kin ++ [one s]) kin2) (hP : Pok ts P) (hQ : Pok ts Q) (hs : s.length = ts.length) (hM : M ∈ kin2) (i1 : Inn P M) (i2 : Inn Q M) : far ts P Q ≤ 2 * R := by
  have T : Tot (lvls ts P Q) R [P, Q] (2 * R) := ⟨0, R, spn_a hP hQ, ⟨0, 0, spn_b hP hQ, trivial, by omega⟩, by omega⟩
  have T1 := C.cost _ (lvls_lip hP hQ) _ T
  have T2 : Tot (lvls ts P Q) R (kin ++ [one s]) (3 * R) := Tot.app.mpr ⟨2 * R, R, T1, ⟨0, 0, spn_one (hs.trans (lvls_len hP hQ).symm), trivial, by omega⟩, by omega⟩
  obtain ⟨c, h1, h2⟩ := Tot.mem hM (C2.cost _ (lvls_lip hP hQ) _ T2)
  have q := spn_far hP hQ i1 i2 h1
  omega
end
end Jr
set_option linter.all false
/-! The loop that closes, spots, walks, stones. -/
namespace Jr
/-! ### the loop that closes a family -/
structure Cls (ts : Trs) (R : Nat) (ps wait fnd : List Prt) : Prop where
  ok : ∀ M ∈ wait ++ fnd, Pok ts M
  apart : fnd.Pairwise fun M N => R < far ts M N
  cov : ∀ p ∈ ps, ∃ M ∈ wait ++ fnd, Inn p M
  cost : ∀ ls, Lip ts ls → ∀ S, Tot ls R ps S → Tot ls R (wait ++ fnd) S
/-- one part with some joined to it in turn -/
structure Hf (ts : Trs) (R : Nat) (p : Prt) (done : List Prt) (cur : Prt) : Prop where
  ok : Pok ts cur
  inn : Inn p cur
  each : ∀ n ∈ done, Inn n cur
  cost : ∀ ls, Lip ts ls → ∀ c S, Spn ls p c → Tot ls R done S → Spn ls cur (c + S)
section
variable {ts : Trs} {R : Nat} {ps wait fnd dn : List Prt} {p cur : Prt}
theorem spn_mono : ∀ {ls : List (Nat → Nat)} {P : Prt} {c d : Nat}, Spn ls P c → c ≤ d → Spn ls P d
  | [], [], _, _, _, _ => trivial
  | l :: ls, b :: P, c, d, ⟨c1, c2, h1, h2, h3⟩, h => ⟨c1, c2, h1, h2, by omega⟩
  | [], _ :: _, _, _, h, _ => h.elim
  | _ :: _, [], _, _, h, _ => h.elim
theorem Cls.start (h : ∀ p ∈ ps, Pok ts p) : Cls ts R ps ps [] :=
  ⟨fun M hM => h M (by simpa using hM), List.Pairwise.nil, fun p hp => ⟨p, by simpa using hp, Inn.refl p⟩, fun ls _ S h => by rw [List.append_nil]; exact h⟩
theorem Cls.fin (C : Cls ts R ps [] fnd) : Clo ts R ps fnd := ⟨C.ok, C.apart, C.cov, C.cost⟩
theorem Clo.perm {kin kin' : List Prt} (C : Clo ts R ps kin) (h : kin'.Perm kin) : Clo ts R ps kin' := by
  have ok' : ∀ M ∈ kin', Pok ts M := fun M hM => C.ok M (h.mem_iff.mp hM)
  refine ⟨ok', ?_, fun p hp => ?_, fun ls hl S hT => Tot.perm h.symm (C.cost ls hl S hT)⟩
  · have C' : kin.Pairwise fun M N => Pok ts M → Pok ts N → R < far ts M N := C.apart.imp fun {M N} q _ _ => q
    have C2 := h.symm.pairwise C' (fun {M N} q hN hM => by
      have := q hM hN
      rw [far_comm hM hN] at this
      exact this)
    exact C2.imp_of_mem fun {M N} hM hN q => q (ok' M hM) (ok' N hN)
  · obtain ⟨M, hM, i⟩ := C.cov p hp
    exact ⟨M, h.mem_iff.mpr hM, i⟩
/-- none is near -/
theorem Cls.keep (C : Cls ts R ps (wait ++ [p]) fnd) (h : ∀ M ∈ fnd, R < far ts p M) : Cls ts R ps wait (fnd ++ [p]) := by
  have e : (wait ++ [p] ++ fnd).Perm (wait ++ (fnd ++ [p])) := by
    rw [List.append_assoc]
    exact List.Perm.append_left _ List.perm_append_comm
  have hp : Pok ts p := C.ok p (by simp)
  have hf : ∀ M ∈ fnd, Pok ts M := fun M hM => C.ok M (List.mem_append_right _ hM)
  refine ⟨fun M hM => C.ok M (e.mem_iff.mpr hM), ?_, fun q hq => ?_, fun ls hl S hT => Tot.perm e (C.cost ls hl S hT)⟩
  · rw [List.pairwise_append]
    refine ⟨C.apart, List.pairwise_singleton _ _, fun M hM N hN => ?_⟩
    rw [List.mem_singleton] at hN
    subst hN
    rw [far_comm (hf M hM) hp]
    exact h M hM
  · obtain ⟨M, hM, i⟩ := C.cov q hq
    exact ⟨M, e.mem_iff.mp hM, i⟩
theorem Hf.nil (h : Pok ts p) : Hf ts R p [] p := ⟨h, Inn.refl p, fun n hn => by simp at hn, fun ls _ c S hc _ => spn_mono hc (by omega)⟩
theorem Hf.snoc (F : Hf ts R p dn cur) {n H : Prt} (hn : Pok ts n) (hp : Pok ts p) (hf : far ts p n ≤ R) (hh : IsHull ts cur n H) : Hf ts R p (dn ++ [n]) H := by
  obtain ⟨k1, k2, k3⟩ := hull_ok F.ok hn hh
  refine ⟨k1, F.inn.trans k2, fun m hm => ?_, fun ls hl c S hc hT => ?_⟩
  · rcases List.mem_append.mp hm with e | e
    · exact (F.each m e).trans k2
    · rw [List.mem_singleton] at e; rw [e]; exact k3
  · obtain ⟨S1, S2, h1, ⟨d, S3, h2, _, h3⟩, h4⟩ := Tot.app.mp hT
    have q := spn_hull hl F.ok hn hh (F.cost ls hl c S1 hc h1) h2
    have q2 := far_mono hp hn F.inn (Inn.refl n)
    exact spn_mono q (by omega)
/-- some are near -/
theorem Cls.join (C : Cls ts R ps (wait ++ [p]) fnd) {b : Prt → Bool} {H : Prt} (F : Hf ts R p (fnd.filter b) H) : Cls ts R ps (wait ++ [H]) (fnd.filter fun M => !b M) := by
  have e0 : ((fnd.filter b) ++ (fnd.filter fun M => !b M)).Perm fnd := List.filter_append_perm b fnd
  have hf : ∀ M ∈ fnd, Pok ts M := fun M hM => C.ok M (List.mem_append_right _ hM)
  have hsub : ∀ M ∈ fnd.filter (fun M => !b M), M ∈ fnd := fun M hM => (List.mem_filter.mp hM).1
  refine ⟨fun M hM => ?_, C.apart.filter _, fun q hq => ?_, fun ls hl S hT => ?_⟩
  · rcases List.mem_append.mp hM with h | h
    · rcases List.mem_append.mp h with h | h
      · exact C.ok M (List.mem_append_left _ (List.mem_append_left _ h))
      · rw [List.mem_singleton] at h; rw [h]; exact F.ok
    · exact hf M (hsub M h)
  · obtain ⟨M, hM, i⟩ := C.cov q hq
    rcases List.mem_append.mp hM with h | h
    · rcases List.mem_append.mp h with h | h
      · exact ⟨M, List.mem_append_left _ (List.mem_append_left _ h), i⟩
      · rw [List.mem_singleton] at h
        exact ⟨H, by simp, i.trans (h ▸ F.inn)⟩
    · rcases List.mem_append.mp (e0.mem_iff.mpr h) with h | h
      · exact ⟨H, by simp, i.trans (F.each M h)⟩
      · exact ⟨M, List.mem_append_right _ h, i⟩
  · obtain ⟨S1, S2, h1, h2, h3⟩ := Tot.app.mp (C.cost ls hl S hT)
    obtain ⟨S3, S4, h4, ⟨c, S5, h5, _, h6⟩, h7⟩ := Tot.app.mp h1
    obtain ⟨S6, S7, h8, h9, h10⟩ := Tot.app.mp (Tot.perm e0.symm h2)
    refine Tot.app.mpr ⟨S3 + (c + S6 + R), S7, Tot.app.mpr ⟨S3, c + S6 + R, h4, ⟨c + S6, 0, F.cost ls hl c S6 h5 h8, trivial, by omega⟩, Nat.le_refl _⟩, h9, by omega⟩
end
/-! ### spots -/
def sd : Trs → List Nat → List Nat → Nat
  | t :: ts, x :: s, y :: s' => dist t x y + sd ts s s'
  | _, _, _ => 0
def Sok : Trs → List Nat → Prop
  | [], [] => True
  | t :: ts, x :: s => x ≤ t.length ∧ Sok ts s
  | _, _ => False
theorem Sok.len : ∀ {ts : Trs} {s : List Nat}, Sok ts s → s.length = ts.length
  | [], [], _ => rfl
  | _ :: ts, _ :: s, h => by rw [List.length_cons, List.length_cons, Sok.len h.2]
  | [], _ :: _, h => h.elim
  | _ :: _, [], h => h.elim
theorem Sok.pok : ∀ {ts : Trs} {s : List Nat}, Sok ts s → Pok ts (one s)
  | [], [], _ => trivial
  | t :: ts, x :: s, h => ⟨⟨List.pairwise_singleton _ _, by simp, fun v hv => by rw [List.mem_singleton] at hv; rw [hv]; exact h.1, fun v hv => by simp at hv⟩, Sok.pok h.2⟩
  | [], _ :: _, h => h.elim
  | _ :: _, [], h => h.elim
theorem far_one : ∀ {ts : Trs} {s s' : List Nat}, s.length = ts.length → s'.length = ts.length → far ts (one s) (one s') = sd ts s s'
  | [], [], [], _, _ => rfl
  | t :: ts, x :: s, y :: s', h, h' => by
    show gap t [x] [y] + far ts (one s) (one s') = dist t x y + sd ts s s'
    rw [gap_one, far_one (by simpa using h) (by simpa using h')]
  | [], _ :: _, _, h, _ => by simp at h
  | _ :: _, [], _, h, _ => by simp at h
  | [], [], _ :: _, _, h => by simp at h
  | _ :: _, _ :: _, [], _, h => by simp at h
theorem sd_tri : ∀ (ts : Trs) (a b c : List Nat), a.length = ts.length → b.length = ts.length → c.length = ts.length → sd ts a c ≤ sd ts a b + sd ts b c
  | [], [], [], [], _, _, _ => Nat.le_refl _
  | t :: ts, x :: a, y :: b, z :: c, h1, h2, h3 => by
    have q1 := tri t x y z
    have q2 := sd_tri ts a b c (by simpa using h1) (by simpa using h2) (by simpa using h3)
    show dist t x z + sd ts a c ≤ dist t x y + sd ts a b + (dist t y z + sd ts b c)
    omega
  | [], _ :: _, _, _, h, _, _ => by simp at h
  | _ :: _, [], _, _, h, _, _ => by simp at h
  | [], [], _ :: _, _, _, h, _ => by simp at h
  | _ :: _, _ :: _, [], _, _, h, _ => by simp at h
  | [], [], [], _ :: _, _, _, h => by simp at h
  | _ :: _, _ :: _, _ :: _, [], _, _, h => by simp at h
theorem sd_self : ∀ (ts : Trs) (a : List Nat), sd ts a a = 0
  | [], _ => rfl
  | _ :: _, [] => rfl
  | t :: ts, x :: a => by show dist t x x + sd ts a a = 0; rw [dist_self, sd_self ts a]
/-! ### walks -/
structure Wlk (ts : Trs) (P Q : Prt) (F : Nat) (w : List (List Nat)) : Prop where
  ok : ∀ s ∈ w, Sok ts s
  len : w.length = F + 1
  first : ∃ s, w[0]? = some s ∧ Inn (one s) P
  last : ∃ s, w[F]? = some s ∧ Inn (one s) Q
  step : ∀ (i : Nat) s s', w[i]? = some s → w[i + 1]? = some s' → sd ts s s' ≤ 1
section
variable {ts : Trs} {P Q : Prt} {F R : Nat} {w : List (List Nat)}
theorem Wlk.get (W : Wlk ts P Q F w) {i : Nat} (h : i ≤ F) : ∃ s, w[i]? = some s ∧ Sok ts s := by
  have hl : i < w.length := by rw [W.len]; omega
  exact ⟨w[i], List.getElem?_eq_getElem hl, W.ok _ (List.getElem_mem hl)⟩
theorem Wlk.near (W : Wlk ts P Q F w) : ∀ (k i : Nat) s s', w[i]? = some s → w[i + k]? = some s' → sd ts s s' ≤ k
  | 0, i, s, s', h, h' => by rw [Nat.add_zero, h] at h'; cases h'; rw [sd_self]; exact Nat.le_refl _
  | k + 1, i, s, s', h, h' => by
    have hl : i + (k + 1) < w.length := by
      rcases Nat.lt_or_ge (i + (k + 1)) w.length with q | q
      · exact q
      · rw [List.getElem?_eq_none q] at h'; cases h'
    have hm : w[i + k]? = some w[i + k] := List.getElem?_eq_getElem (by omega)
    have q1 := W.near k i s _ h hm
    have q2 := W.step (i + k) _ s' hm h'
    have q3 := sd_tri ts s w[i + k] s' (W.ok _ (List.mem_of_getElem? h)).len (W.ok _ (List.getElem_mem _)).len (W.ok _ (List.mem_of_getElem? h')).len
    omega
/-- the stones -/
def told (w : List (List Nat)) (R : Nat) : List (List Nat) := (List.range ((w.length - 2) / R)).map fun k => w.getD ((k + 1) * R) []
theorem told_len : (told w R).length = (w.length - 2) / R := by unfold told; rw [List.length_map, List.length_range]
theorem told_at (W : Wlk ts P Q F w) (hR : 0 < R) {k : Nat} (hk : k < (F - 1) / R) : (k + 1) * R < F ∧ ∃ s, w[(k + 1) * R]? = some s ∧ Sok ts s ∧ w.getD ((k + 1) * R) [] = s := by
  have h1 : (k + 1) * R ≤ (F - 1) / R * R := Nat.mul_le_mul_right R hk
  have h2 := Nat.div_mul_le_self (F - 1) R
  have h3 : 0 < (k + 1) * R := Nat.mul_pos (Nat.succ_pos k) hR
  have h4 : (k + 1) * R < F := by omega
  obtain ⟨s, e, o⟩ := W.get (Nat.le_of_lt h4)
  exact ⟨h4, s, e, o, by rw [List.getD_eq_getElem?_getD, e]; rfl⟩
theorem told_ok (W : Wlk ts P Q F w) (hR : 0 < R) : ∀ s ∈ told w R, Sok ts s := by
  intro s hs
  unfold told at hs
  rw [W.len] at hs
  obtain ⟨k, hk, e⟩ := List.mem_map.mp hs
  obtain ⟨_, s', _, o, e'⟩ := told_at W hR (List.mem_range.mp hk)
  rw [← e, e']
  exact o
/-- P, the stones, Q: each near the next -/
theorem told_chain (W : Wlk ts P Q F w) (hR : 0 < R) (hP : Pok ts P) (hQ : Pok ts Q) : NearR ts R (P :: ((told w R).map one ++ [Q])) := by
  have hw := W.len
  -- from the k-th stone on
  have go : ∀ (j k : Nat) (A : Prt) (s : List Nat), k + j = (F - 1) / R → w[k * R]? = some s → Pok ts A → Inn (one s) A → Sok ts s →
      NearR ts R (A :: (((List.range j).map fun i => one (w.getD ((k + i + 1) * R) [])) ++ [Q])) := by
    intro j
    induction j with
    | zero =>
      intro k A s hk hs hA hi so
      obtain ⟨z, hz, iz⟩ := W.last
      have hzo := W.ok z (List.mem_of_getElem? hz)
      have hkF : k * R ≤ F := by
        have := Nat.div_mul_le_self (F - 1) R
        have hk' : k = (F - 1) / R := by omega
        rw [hk']; omega
      have hd : F - k * R ≤ R := by
        have h1 := Nat.div_add_mod (F - 1) R
        have h2 := Nat.mod_lt (F - 1) hR
        have hk' : k = (F - 1) / R := by omega
        rw [hk', Nat.mul_comm]
        omega
      have q := W.near (F - k * R) (k * R) s z hs (by rw [Nat.add_sub_cancel' hkF]; exact hz)
      refine ⟨?_, trivial⟩
      have m := far_mono so.pok hzo.pok hi iz
      rw [far_one so.len hzo.len] at m
      omega
    | succ j ih =>
      intro k A s hk hs hA hi so
      obtain ⟨h4, s', e', o', d'⟩ := told_at W hR (k := k) (by omega)
      rw [List.range_succ_eq_map, List.map_cons, List.map_map]
      refine ⟨?_, ?_⟩
      · show far ts A (one (w.getD ((k + 0 + 1) * R) [])) ≤ R
        rw [Nat.add_zero, d']
        have q := W.near R (k * R) s s' hs (by rw [← Nat.succ_mul]; exact e')
        have m := far_mono so.pok o'.pok hi (Inn.refl (one s'))
        rw [far_one so.len o'.len] at m
        omega
      · have r := ih (k + 1) (one s') s' (by omega) e' o'.pok (Inn.refl _) o'
        show NearR ts R (one (w.getD ((k + 0 + 1) * R) []) :: (((List.range j).map ((fun i => one (w.getD ((k + i + 1) * R) [])) ∘ Nat.succ)) ++ [Q]))
        rw [Nat.add_zero, d']
        have e : ((List.range j).map ((fun i => one (w.getD ((k + i + 1) * R) [])) ∘ Nat.succ)) = (List.range j).map fun i => one (w.getD ((k + 1 + i + 1) * R) []) := by
          refine List.map_congr_left fun i _ => ?_
          show one (w.getD ((k + (i + 1) + 1) * R) []) = _
          rw [show k + (i + 1) + 1 = k + 1 + i + 1 by omega]
        rw [e]
        exact r
  obtain ⟨s, hs, i⟩ := W.first
  have g := go ((F - 1) / R) 0 P s (by omega) (by rw [Nat.zero_mul]; exact hs) hP i (W.ok s (List.mem_of_getElem? hs))
  unfold told
  rw [List.map_map, hw, show F + 1 - 2 = F - 1 by omega]
  have e : ((List.range ((F - 1) / R)).map fun i => one (w.getD ((0 + i + 1) * R) [])) = (List.range ((F - 1) / R)).map (one ∘ fun k => w.getD ((k + 1) * R) []) := by
    refine List.map_congr_left fun i _ => ?_
    rw [Nat.zero_add]; rfl
  rw [← e]
  exact g
/-! ### what the law asks -/
/-- the told stones bring both together -/
theorem told_brings (W : Wlk ts P Q F w) (hR : 0 < R) (hP : Pok ts P) (hQ : Pok ts Q) {kin : List Prt} (C : Clo ts R (P :: Q :: (told w R).map one) kin) : ∃ M ∈ kin, Inn P M ∧ Inn Q M := by
  obtain ⟨M, hM, i⟩ := C.cov P List.mem_cons_self
  have hok : ∀ p ∈ P :: Q :: (told w R).map one, Pok ts p := fun p hp => by
    rcases List.mem_cons.mp hp with e | hp
    · rw [e]; exact hP
    · rcases List.mem_cons.mp hp with e | hp
      · rw [e]; exact hQ
      · obtain ⟨s, hs, e⟩ := List.mem_map.mp hp
        rw [← e]; exact (told_ok W hR s hs).pok
  exact ⟨M, hM, i, C.chain hok (fun p hp => List.mem_cons_of_mem _ (List.mem_cons_of_mem _ hp)) hP hM i (by simp) (told_chain W hR hP hQ)⟩
/-- fewer spots never do -/
theorem fewer_not (hP : Pok ts P) (hQ : Pok ts Q) {spots : List (List Nat)} (hs : ∀ s ∈ spots, s.length = ts.length) (hm : spots.length < (far ts P Q - 1) / R) {kin : List Prt} (C : Clo ts R (P :: Q :: spots.map one) kin) : ¬ ∃ M ∈ kin, Inn P M ∧ Inn Q M := by
  rintro ⟨M, hM, i1, i2⟩
  have q := C.few hP hQ hs hM i1 i2
  have h1 : (spots.length + 1) * R ≤ (far ts P Q - 1) / R * R := Nat.mul_le_mul_right R hm
  have h2 := Nat.div_mul_le_self (far ts P Q - 1) R
  have h3 : 0 < far ts P Q - 1 := by
    rcases Nat.eq_zero_or_pos (far ts P Q - 1) with e | e
    · rw [e, Nat.zero_div] at hm; omega
    · exact e
  omega
/-- none is wanted: any spot beside does -/
theorem help_all (hP : Pok ts P) (hQ : Pok ts Q) (hR : 0 < R) (h0 : (far ts P Q - 1) / R = 0) {kin kin2 : List Prt} (C : Clo ts R [P, Q] kin) {s : List Nat} (C2 : Clo ts R (kin ++ [one s]) kin2) : ∃ M ∈ kin2, Inn P M ∧ Inn Q M := by
  have hF : far ts P Q ≤ R := by
    have := (Nat.div_eq_zero_iff).mp h0
    omega
  obtain ⟨M, hM, i⟩ := C.cov P (by simp)
  obtain ⟨N, hN, j⟩ := C.cov Q (by simp)
  have e := C.same hM hN hP hQ i j hF
  subst e
  obtain ⟨M2, hM2, i2⟩ := C2.cov M (List.mem_append_left _ hM)
  exact ⟨M2, hM2, i.trans i2, j.trans i2⟩
/-- one is wanted: the told one does -/
theorem help_one (W : Wlk ts P Q (far ts P Q) w) (hP : Pok ts P) (hQ : Pok ts Q) (hR : 0 < R) {s : List Nat} (h1 : told w R = [s]) {kin kin2 : List Prt} (C : Clo ts R [P, Q] kin) (C2 : Clo ts R (kin ++ [one s]) kin2) : ∃ M ∈ kin2, Inn P M ∧ Inn Q M := by
  have ch := told_chain W hR hP hQ
  rw [h1] at ch
  have so := told_ok W hR s (by rw [h1]; simp)
  have c1 : far ts P (one s) ≤ R := ch.1
  have c2 : far ts (one s) Q ≤ R := ch.2.1
  obtain ⟨M, hM, i⟩ := C.cov P (by simp)
  obtain ⟨N, hN, j⟩ := C.cov Q (by simp)
  obtain ⟨M2, hM2, i2⟩ := C2.cov M (List.mem_append_left _ hM)
  obtain ⟨N2, hN2, j2⟩ := C2.cov N (List.mem_append_left _ hN)
  obtain ⟨S2, hS2, k2⟩ := C2.cov (one s) (by simp)
  have e1 := C2.same hM2 hS2 hP so.pok (i.trans i2) k2 c1
  have e2 := C2.same hS2 hN2 so.pok hQ k2 (j.trans j2) c2
  refine ⟨M2, hM2, i.trans i2, ?_⟩
  rw [e1, e2]
  exact j.trans j2
/-- more are wanted: none does alone -/
theorem help_none (hP : Pok ts P) (hQ : Pok ts Q) (h2 : 1 < (far ts P Q - 1) / R) {kin kin2 : List Prt} (C : Clo ts R [P, Q] kin) {s : List Nat} (hs : s.length = ts.length) (C2 : Clo ts R (kin ++ [one s]) kin2) : ¬ ∃ M ∈ kin2, Inn P M ∧ Inn Q M := by
  rintro ⟨M, hM, i1, i2⟩
  have q := C.few2 C2 hP hQ hs hM i1 i2
  have h1 : 2 * R ≤ (far ts P Q - 1) / R * R := Nat.mul_le_mul_right R h2
  have h3 := Nat.div_mul_le_self (far ts P Q - 1) R
  have h4 : 0 < far ts P Q - 1 := by
    rcases Nat.eq_zero_or_pos (far ts P Q - 1) with e | e
    · rw [e, Nat.zero_div] at h2; omega
    · exact e
  omega
end
end Jr
set_option Elab.async false
set_option linter.all false
set_option maxRecDepth 100000
set_option maxHeartbeats 4000000
namespace Jr
open PySem PySem.Spec PyProof.Rows L2
/-! ### calls of built-ins, with what they ask in structures (so that a goal is met by its head) -/
structure aIsi (K : PySem.W.Frag) (xs : List V) (H : Hp) (Q : VK) : Prop where
  ex : rIsi K xs H Q
structure aLen (K : PySem.W.Frag) (xs : List V) (H : Hp) (Q : VK) : Prop where
  ex : ∃ p ys, xs = [.ref p] ∧ (SqL K H p ys ∨ SqT K H p ys) ∧ Q (.int ys.length) H
structure aAll (K : PySem.W.Frag) (xs : List V) (H : Hp) (Q : VK) : Prop where
  ex : rAll K xs H Q
structure aAny (K : PySem.W.Frag) (xs : List V) (H : Hp) (Q : VK) : Prop where
  ex : rAny K xs H Q
theorem callR_of {X : Cx} {fv : Value} {r r' : List V → Hp → VK → Prop} (h : CallR X fv r) (k : ∀ xs H Q, r' xs H Q → r xs H Q) : CallR X fv r' := fun pins s σ H vs us Q I rv q => h pins s σ H vs us Q I rv (k vs H Q q)
theorem pe_isi {X : Cx} {K : PySem.W.Frag} {e : Expr} {te : TE} {n : String} {x : Str} {p1 p2 pos : Pos} (T : Tx X.mg) (he : PE X e te) (hm : X.mg x = none) (hb : bootBuiltins x = some (.type n)) (hK : X.K = K := by rfl) (hg1 : Gl X "isinstance" := by rfl) (hg2 : Gl X x := by rfl)
    (hn : x ≠ "__name__" := by decide) (hd : (x == ("__debug__" : Str)) = false := by decide) (h1 : starEach [e, .Name x p2] X.env = (false, eval e X.env) :: starEach [.Name x p2] X.env := by rfl)
    (hpl : (backTo pos (starEach [.Name x p2] X.env)).any (·.1) = false := by rfl) : PE X (.Call (.Name "isinstance" p1) [e, .Name x p2] [] pos) (tCB (aIsi K) (tCons te (tCons (tC (.ty n)) tNil))) := by
  subst hK
  exact pe_callB (callR_of call_isi fun _ _ _ h => h.ex) hg1 T.isinstance boot_isinstance (pa_cons he (pa_cons (pe_bltn (v := .ty n) hg2 hm hb rfl hn hd) pa_nil) h1) (by decide) (by decide) h1 hpl
theorem isi_ans {K : PySem.W.Frag} {H : Hp} {x : V} {t n : String} {b : Bool} {Q : VK} (ht : TyX K H x (.type t)) (hk : PySem.W.kitOne K (.type t) (.type n) = some b) (q : Q (.bl b) H) : aIsi K [x, .ty n] H Q :=
  ⟨x, .ty n, .type t, .type n, b, rfl, .ty n, ht, hk, q⟩
theorem isi_tup {K : PySem.W.Frag} {H : Hp} {a : Addr} {xs : List V} {Q : VK} (h : H a = some (.tup xs)) (q : Q (.bl true) H) : aIsi K [.ref a, .ty "tuple"] H Q :=
  isi_ans (.base (.tup h)) kit_eq q
theorem pe_len {X : Cx} {K : PySem.W.Frag} {e : Expr} {te : TE} {p1 pos : Pos} (T : Tx X.mg) (he : PE X e te) (hK : X.K = K := by rfl) (hg : Gl X "len" := by rfl) (h1 : starEach [e] X.env = (false, eval e X.env) :: starEach [] X.env := by rfl) :
    PE X (.Call (.Name "len" p1) [e] [] pos) (tCB (aLen K) (tCons te tNil)) := by
  subst hK
  exact pe_callB (callR_of call_len_seq fun _ _ _ h => h.ex) hg T.len PySem.boot_len (pa_cons he pa_nil h1) (by decide) (by decide) h1 rfl
theorem len_tup {K : PySem.W.Frag} {H : Hp} {a : Addr} {xs : List V} {n : Nat} {Q : VK} (h : H a = some (.tup xs)) (hn : xs.length = n) (q : Q (.int (n : Int)) H) : aLen K [.ref a] H Q :=
  ⟨a, xs, rfl, .inr (SqT.of h), by rw [hn]; exact q⟩
theorem len_lst {K : PySem.W.Frag} {H : Hp} {a : Addr} {xs : List V} {n : Nat} {Q : VK} (h : H a = some (.lst xs)) (hn : xs.length = n) (q : Q (.int (n : Int)) H) : aLen K [.ref a] H Q :=
  ⟨a, xs, rfl, .inl (SqL.of h), by rw [hn]; exact q⟩
theorem boot_all' : bootBuiltins "all" = some (.builtin "all") := by decide +kernel
theorem boot_any' : bootBuiltins "any" = some (.builtin "any") := by decide +kernel
theorem pe_all {X : Cx} {K : PySem.W.Frag} {e : Expr} {te : TE} {p1 pos : Pos} (T : Tx X.mg) (he : PE X e te) (hK : X.K = K := by rfl) (hc : X.calm = true := by rfl) (hg : Gl X "all" := by rfl) (h1 : starEach [e] X.env = (false, eval e X.env) :: starEach [] X.env := by rfl) :
    PE X (.Call (.Name "all" p1) [e] [] pos) (tCB (aAll K) (tCons te tNil)) := by
  subst hK
  exact pe_callB (callR_of (cr_all hc) fun _ _ _ h => h.ex) hg T.all boot_all' (pa_cons he pa_nil h1) (by decide) (by decide) h1 rfl
theorem pe_any {X : Cx} {K : PySem.W.Frag} {e : Expr} {te : TE} {p1 pos : Pos} (T : Tx X.mg) (he : PE X e te) (hK : X.K = K := by rfl) (hc : X.calm = true := by rfl) (hg : Gl X "any" := by rfl) (h1 : starEach [e] X.env = (false, eval e X.env) :: starEach [] X.env := by rfl) :
    PE X (.Call (.Name "any" p1) [e] [] pos) (tCB (aAny K) (tCons te tNil)) := by
  subst hK
  exact pe_callB (callR_of (cr_any hc) fun _ _ _ h => h.ex) hg T.any boot_any' (pa_cons he pa_nil h1) (by decide) (by decide) h1 rfl
theorem all_ans {K : PySem.W.Frag} {H : Hp} {a : Addr} {ys : List V} {bs : List Bool} {Q : VK} (h : H a = some (.lst ys)) (p : Paired (BlR H) ys bs) (q : Q (.bl (bs.all id)) H) : aAll K [.ref a] H Q := ⟨a, bs, rfl, SqL.of (by rw [h, bls_map p]), q⟩
theorem any_ans {K : PySem.W.Frag} {H : Hp} {a : Addr} {ys : List V} {bs : List Bool} {Q : VK} (h : H a = some (.lst ys)) (p : Paired (BlR H) ys bs) (q : Q (.bl (bs.any id)) H) : aAny K [.ref a] H Q := ⟨a, bs, rfl, SqL.of (by rw [h, bls_map p]), q⟩
theorem len_small {n : Nat} (h : n ≤ 1000) : n ≤ 100000 := by omega
/-! ### is_tree, check_tree, check_place -/
def TreeOk (t : List Nat) : Prop := t.length ≤ 11 ∧ ∀ (i b : Nat), t[i]? = some b → b ≤ i
section
variable {P : Program} {w : World} {K : PySem.W.Frag} {mg : Str → Option Value} {base : Heap} {f : Addr} {fd : FuncData}
def sp_is_tree : Sp := fun vs H Q _ => ∃ v t, vs = [v] ∧ NatsT H v t ∧ TreeOk t ∧ ∀ H', Same H H' → Q (.bl true) H'
theorem k_is_tree (T : Tx mg) (W : Kn P w K mg base "is_within" 2 ["thing", "low", "high"] sp_is_within) (F : FnP K "is_tree" s_is_tree f fd) (g : mg "is_tree" = some (.ref f)) : Kn P w K mg base "is_tree" 3 ["thing"] sp_is_tree := by
  refine kn_of F g (F.ok c_is_tree (fun vs H Q E h => ?_) (fun cdv A outer s H vs Q E hr h => ?_)) (fun _ _ _ _ _ _ us hl => match us, hl with | [_], _ => rfl)
  · obtain ⟨v, t, rfl, _⟩ := h
    rfl
  · obtain ⟨v, t, rfl, ht, ok, q⟩ := h
    have nd := c_is_tree.nd
    refine ⟨_, PSs.nox (pss_cons (ps_if (PW.pt (pw_or (pt_not (pt_val (pe_isi T (pv 0) T.tuple boot_tuple))) (pw_or1 (pt_cmpR op_ge (pe_len T (pv 0)) (pe_con1 T.MOST_PLACES) (nomark _))))) (pss_one (ps_ret pe_bl)) pss_nil)
      (pss_one (ps_ret (pe_all T (pe_lcm (own := [("number", 1), ("below", 2)]) (g := gTup K 2 (gCons (gName 1) (gCons (gName 2) gNil))) nd (pi_en T.enumerate (pa_cons (pv 0) pa_nil)) (blkOk_by (N := ["thing", "number", "below"]) (sc := defScope s_is_tree) (by decide +kernel))
        (fun _ _ _ _ _ => pg_tup rfl (pgs_cons (pg_name (i := 1) nd rfl (.inl rfl) (.inr rfl)) (pgs_cons (pg_name (i := 2) nd rfl (.inl rfl) (.inr rfl)) pgs_nil)))
        (fun _ _ _ _ _ => pe_kn W hr (pa_cons (pv 2) (pa_cons pe_int (pa_cons (pv 1) pa_nil))))))))), ?_⟩
    obtain ⟨a, xs, rfl, ha, pd⟩ := ht
    have hl := pd_len pd
    refine ⟨.ref a, rfl, isi_tup ha ⟨true, rfl, ?_⟩⟩
    refine iteF ⟨.ref a, rfl, len_tup ha hl ⟨_, _, rfl, rfl, _, rfl, ?_⟩⟩
    rw [decide_eq_false (show ¬ (12 : Int) ≤ (t.length : Int) by have := ok.1; omega)]
    refine iteF ?_
    refine ⟨.ref a, rfl, .ref a, .t, xs, rfl, ⟨a, rfl, SqT.of ha⟩, ?_⟩
    refine lc_en stb_nat (Stb.d stb_bl) ha pd (len_small (by have := ok.1; omega)) (fun _ => true) (fun D b v H Kn hacc hb sm hp kn => ?_) (fun D ys H2 hD sm h2 p2 => ?_)
    · refine g_pair hp fun x y rx ry => ⟨rfl, ?_⟩
      have q1 := ok.2 _ _ hb
      have rx' : x = .int (b.1 : Int) := rx
      have ry' : y = .int (b.2 : Int) := ry
      subst rx' ry'
      refine ⟨_, rfl, _, rfl, (b.2 : Int), 0, (b.1 : Int), rfl, ?_⟩
      rw [decide_eq_true (by omega)]
      exact kn _ H (Same.refl H) rfl
    · refine all_ans h2 p2 ?_
      rw [map_true fun _ _ => rfl]
      exact q H2 sm
def sp_check_tree : Sp := fun vs H Q _ => ∃ v t, vs = [v] ∧ NatsT H v t ∧ TreeOk t ∧ ∀ H', Same H H' → Q .non H'
theorem k_check_tree (W : Kn P w K mg base "is_tree" 3 ["thing"] sp_is_tree) (F : FnP K "check_tree" s_check_tree f fd) (g : mg "check_tree" = some (.ref f)) : Kn P w K mg base "check_tree" 4 ["thing"] sp_check_tree := by
  refine kn_of F g (F.ok c_check_tree (fun vs H Q E h => ?_) (fun cdv A outer s H vs Q E hr h => ?_)) (fun _ _ _ _ _ _ us hl => match us, hl with | [_], _ => rfl)
  · obtain ⟨v, t, rfl, _⟩ := h
    rfl
  · obtain ⟨v, t, rfl, ht, ok, q⟩ := h
    refine ⟨_, PSs.nox (pss_one (ps_if (pt_not (pt_val (pe_kn W hr (pa_cons (pv 0) pa_nil)))) pss_never pss_nil)), ?_⟩
    exact ⟨v, rfl, v, t, rfl, ht, ok, fun H' sm => ⟨true, rfl, iteF (q H' sm)⟩⟩
def sp_check_place : Sp := fun vs H Q _ => ∃ v t, ∃ p : Nat, vs = [v, .int p] ∧ NatsT H v t ∧ p ≤ t.length ∧ ∀ H', Same H H' → Q .non H'
theorem k_check_place (T : Tx mg) (W : Kn P w K mg base "is_within" 2 ["thing", "low", "high"] sp_is_within) (F : FnP K "check_place" s_check_place f fd) (g : mg "check_place" = some (.ref f)) : Kn P w K mg base "check_place" 3 ["tree", "thing"] sp_check_place := by
  refine kn_of F g (F.ok c_check_place (fun vs H Q E h => ?_) (fun cdv A outer s H vs Q E hr h => ?_)) (fun _ _ _ _ _ _ us hl => match us, hl with | [_, _], _ => rfl)
  · obtain ⟨v, t, p, rfl, _⟩ := h
    rfl
  · obtain ⟨v, t, p, rfl, ⟨a, xs, rfl, ha, pd⟩, hp, q⟩ := h
    refine ⟨_, PSs.nox (pss_one (ps_if (pt_not (pt_val (pe_kn W hr (pa_cons (pv 1) (pa_cons pe_int (pa_cons (pe_len T (pv 0)) pa_nil)))))) pss_never pss_nil)), ?_⟩
    refine ⟨_, rfl, .ref a, rfl, ?_⟩
    refine len_tup ha (pd_len pd) ?_
    refine ⟨_, _, _, rfl, ?_⟩
    rw [decide_eq_true (by omega)]
    exact ⟨true, rfl, iteF (q H (Same.refl H))⟩
end
end Jr
set_option Elab.async false
set_option linter.all false
set_option maxRecDepth 100000
set_option maxHeartbeats 4000000
namespace Jr
open PySem PySem.Spec PyProof.Rows L2
def nvs (l : List Nat) : List V := l.map fun n : Nat => V.int (n : Int)
theorem nvs_len (l : List Nat) : (nvs l).length = l.length := by unfold nvs; rw [List.length_map]
theorem nvs_get {l : List Nat} {i n : Nat} (h : l[i]? = some n) : (nvs l)[i]? = some (.int (n : Int)) := by unfold nvs; rw [List.getElem?_map, h]; rfl
theorem nvs_app (a b : List Nat) : nvs (a ++ b) = nvs a ++ nvs b := by unfold nvs; rw [List.map_append]
theorem nvs_pd {H : Hp} (l : List Nat) : Paired (NatR H) (nvs l) l := nats_of l
theorem nvs_of {H : Hp} {xs : List V} {l : List Nat} (p : Paired (NatR H) xs l) : xs = nvs l := nats_map p
theorem nvs_flat (l : List Nat) : (nvs l).all flatV = true := by unfold nvs; rw [List.all_map]; exact List.all_eq_true.mpr fun _ _ => rfl
theorem nvs_in (m : Nat) (l : List Nat) : inV (.int (m : Int)) (nvs l) = decide (m ∈ l) := by
  unfold inV nvs
  rw [List.any_map, Bool.eq_iff_iff, List.any_eq_true, decide_eq_true_eq]
  constructor
  · rintro ⟨x, hx, e⟩
    have e' : ((x : Int) == (m : Int)) = true := e
    rw [beq_iff_eq] at e'
    have : x = m := by omega
    rw [← this]; exact hx
  · intro h
    exact ⟨m, h, by show ((m : Int) == (m : Int)) = true; rw [beq_iff_eq]⟩
theorem cut_to {xs : List V} {j : Nat} : cutV xs none (some (j : Int)) = xs.take j := by
  unfold cutV
  rw [HT.sIx_none, HT.sIx_nat, List.drop_zero, Nat.sub_zero]
  rcases Nat.le_total j xs.length with h | h
  · rw [Nat.min_eq_left h]
  · rw [Nat.min_eq_right h, List.take_length, List.take_of_length_le h]
theorem first_at {l : List Nat} {m : Nat} (h : m ∈ l) : ∃ j : Nat, l[j]? = some m ∧ ∀ i z, i < j → l[i]? = some z → z ≠ m := by
  induction l with
  | nil => simp at h
  | cons a r ih =>
    by_cases e : a = m
    · subst e; exact ⟨0, rfl, fun i z hi => by omega⟩
    · have h' : m ∈ r := by
        rcases List.mem_cons.mp h with q | q
        · exact absurd q.symm e
        · exact q
      obtain ⟨j, h1, h2⟩ := ih h'
      refine ⟨j + 1, by simpa using h1, fun i z hi hz => ?_⟩
      cases i with
      | zero => have : a = z := by simpa using hz
                rw [← this]; exact e
      | succ i => exact h2 i z (by omega) (by simpa using hz)
theorem par_get {t : List Nat} (ok : TreeOk t) {c : Nat} (h0 : 0 < c) (hc : c ≤ t.length) : t[c - 1]? = some (par t c) := by
  obtain ⟨b, hb⟩ := get_lt (as := t) (i := c - 1) (by omega)
  have q := ok.2 _ _ hb
  unfold par
  rw [List.getD_eq_getElem?_getD, hb]
  show some b = some (min b (c - 1))
  rw [Nat.min_eq_left q]
theorem anc_len (t : List Nat) : ∀ v, (anc t v).length ≤ v + 1 := by
  intro v
  induction v using Nat.strongRecOn with
  | ind v ih =>
    by_cases h : v = 0
    · subst h; rw [anc_zero]; exact Nat.le_refl _
    · rw [anc_pos t (by omega), List.length_cons]
      have := par_lt t (v := v) (by omega)
      have := ih _ this
      omega
section
variable {P : Program} {w : World} {K : PySem.W.Frag} {mg : Str → Option Value} {base : Heap} {f : Addr} {fd : FuncData}
/-! ### downward -/
def sp_downward : Sp := fun vs H Q _ => ∃ v t, ∃ p : Nat, vs = [v, .int p] ∧ NatsT H v t ∧ TreeOk t ∧ p ≤ t.length ∧ ∀ l H', Same H H' → H l = none → H' l = some (.lst (nvs (anc t p))) → Q (.ref l) H'
theorem k_downward (F : FnP K "downward" s_downward f fd) (g : mg "downward" = some (.ref f)) : Kn P w K mg base "downward" 1 ["tree", "place"] sp_downward := by
  refine kn_of F g (F.ok c_downward (fun vs H Q E h => ?_) (fun cdv A outer s H vs Q E hr h => ?_)) (fun _ _ _ _ _ _ us hl => match us, hl with | [_, _], _ => rfl)
  · obtain ⟨v, t, p, rfl, _⟩ := h
    rfl
  · obtain ⟨v, t, p, rfl, ⟨a, xs, rfl, ha, pd⟩, ok, hp, q⟩ := h
    have nd := c_downward.nd
    refine ⟨_, PSs.nox (pss_cons (ps_set (i := 2) nd rfl (.inl rfl) (pe_lst (pa_cons (pv 1) pa_nil)))
      (pss_cons (ps_while PassesOwn.never (pt_cmpR op_gt (pe_ix ix_list (pv 2) (pe_un un_neg pe_int) (fun _ _ => rfl)) pe_int (nomark _))
        (pss_one (ps_expr (pe_bm PySem.F.plainAttrs_list PySem.F.slot_list_append PySem.F.type_list_append mt_append (pv 2)
          (pa_cons (pe_ix ix_tup (pv 0) (pe_op op_sub (pe_ix ix_list (pv 2) (pe_un un_neg pe_int) (fun _ _ => rfl)) pe_int) (fun _ _ => rfl)) pa_nil)))))
      (pss_one (ps_ret (pv 2))))), ?_⟩
    refine ⟨_, rfl, by show 1 ≤ sizeLine; decide, fun l hl => ?_⟩
    have hxs := nvs_of pd
    subst hxs
    refine ⟨fun m σ H3 => ∃ (pre : List Nat) (c : Nat), c = m ∧ σ = [some (.ref a), some (.int (p : Int)), some (.ref l)] ∧ pre ++ anc t c = anc t p ∧ c ≤ t.length ∧ Same H H3 ∧ H3 l = some (.lst (nvs pre ++ [.int (c : Int)])),
      ⟨p, [], p, rfl, rfl, rfl, hp, sm_new hl, by rw [upd_same]; rfl⟩, fun m σ H3 hW => ?_⟩
    obtain ⟨pre, c, rfl, rfl, hpre, hc, sm, hl3⟩ := hW
    have la : atI (nvs pre ++ [V.int (c : Int)]) (-1) = some (.int (c : Int)) := atI_last _ _
    have ha3 : H3 a = some (.tup (nvs t)) := sm _ _ ha
    refine ⟨.ref l, rfl, 1, rfl, l, _, -1, _, rfl, rfl, SqL.of hl3, la, (c : Int), 0, rfl, rfl, _, rfl, ?_⟩
    by_cases h0 : 0 < c
    · rw [decide_eq_true (show (0 : Int) < (c : Int) by omega)]
      refine iteT ⟨fun σ' H' => ∃ (pre : List Nat) (c' : Nat), c' < c ∧ σ' = [some (.ref a), some (.int (p : Int)), some (.ref l)] ∧ pre ++ anc t c' = anc t p ∧ c' ≤ t.length ∧ Same H H' ∧ H' l = some (.lst (nvs pre ++ [.int (c' : Int)])),
        fun σ' H' ⟨pre', c', h1, h2⟩ => ⟨c', h1, pre', c', rfl, h2⟩, ?_⟩
      refine ⟨.ref l, rfl, .inl ⟨rfl, _, SqL.of hl3⟩, .ref a, rfl, .ref l, rfl, 1, rfl, l, _, -1, _, rfl, rfl, SqL.of hl3, la, (c : Int), 1, rfl, rfl, ?_⟩
      have hg := par_get ok h0 hc
      have hlt := par_lt t h0
      refine ⟨a, nvs t, (c : Int) - 1, .int (par t c : Int), rfl, rfl, SqT.of ha3, ?_, ?_⟩
      · rw [show (c : Int) - 1 = ((c - 1 : Nat) : Int) by omega]
        exact atI_nat (nvs_get hg)
      · have hlen : (nvs pre ++ [V.int (c : Int)]).length ≤ p + 1 := by
          have h1 := anc_len t p
          rw [← hpre, List.length_append] at h1
          obtain ⟨r, hr'⟩ := anc_head t c
          rw [hr', List.length_cons] at h1
          rw [List.length_append, nvs_len, List.length_singleton]
          omega
        refine ⟨l, _, _, rfl, rfl, hl3, Nat.lt_of_le_of_lt (Nat.le_trans hlen (show p + 1 ≤ 1000 by have := ok.1; omega)) (by decide), pre ++ [c], par t c, hlt, rfl, ?_, by omega, sm_mut sm hl, ?_⟩
        · rw [List.append_assoc]
          show pre ++ (c :: anc t (par t c)) = _
          rw [← anc_pos t h0]; exact hpre
        · rw [upd_same, nvs_app]; rfl
    · rw [decide_eq_false (show ¬ (0 : Int) < (c : Int) by omega)]
      refine iteF ?_
      have e0 : c = 0 := by omega
      subst e0
      refine ⟨.ref l, rfl, q l H3 sm hl ?_⟩
      rw [hl3, ← hpre, anc_zero, nvs_app]; rfl
end
end Jr
set_option Elab.async false
set_option linter.all false
set_option maxRecDepth 100000
set_option maxHeartbeats 4000000
namespace Jr
open PySem PySem.Spec PyProof.Rows L2
structure aIdx (K : PySem.W.Frag) (x : V) (xs : List V) (H : Hp) (Q : VK) : Prop where
  ex : rIndex K x xs H Q
theorem mt_idx {X : Cx} : MtR X "list.index" (aIdx X.K) := fun pins s σ H x xs v us Q I rx rxs h => mt_index pins s σ H x xs v us Q I rx rxs h.ex
theorem idx_nvs {K : PySem.W.Frag} {H : Hp} {a : Addr} {l : List Nat} {m : Nat} {Q : VK} (h : H a = some (.lst (nvs l))) (hm : m ∈ l) (q : ∀ j : Nat, l[j]? = some m → Q (.int (j : Int)) H) : aIdx K (.ref a) [.int (m : Int)] H Q := by
  obtain ⟨j, h1, h2⟩ := first_at hm
  refine ⟨a, nvs l, .int (m : Int), j, .int (m : Int), rfl, rfl, SqL.of h, rfl, nvs_flat l, nvs_get h1, by show ((m : Int) == (m : Int)) = true; simp, fun i z hi hz => ?_, q j h1⟩
  obtain ⟨n, hn, e⟩ := pd_get (nvs_pd (H := H) l) hz
  have e' : z = .int (n : Int) := e
  subst e'
  have := h2 i n hi hn
  show ((n : Int) == (m : Int)) = false
  rw [beq_eq_false_iff_ne]; omega
theorem nvs_take (l : List Nat) (j : Nat) : (nvs l).take j = nvs (l.take j) := by unfold nvs; rw [List.map_take]
theorem nvs_rev (l : List Nat) : (nvs l).reverse = nvs l.reverse := by unfold nvs; rw [List.map_reverse]
theorem small_len {n : Nat} (h : n ≤ 1000) : n ≤ sizeLine := Nat.le_trans h (by decide)
section
variable {P : Program} {w : World} {K : PySem.W.Frag} {mg : Str → Option Value} {base : Heap} {f : Addr} {fd : FuncData}
/-! ### steps_between -/
def sp_steps : Sp := fun vs H Q _ => ∃ v t, ∃ x y : Nat, vs = [v, .int x, .int y] ∧ NatsT H v t ∧ TreeOk t ∧ x ≤ t.length ∧ y ≤ t.length ∧ ∀ l H', Same H H' → H l = none → H' l = some (.lst (nvs (path t x y))) → Q (.ref l) H'
theorem k_steps (W : Kn P w K mg base "downward" 1 ["tree", "place"] sp_downward) (F : FnP K "steps_between" s_steps_between f fd) (g : mg "steps_between" = some (.ref f)) : Kn P w K mg base "steps_between" 2 ["tree", "one", "other"] sp_steps := by
  refine kn_of F g (F.ok c_steps_between (fun vs H Q E h => ?_) (fun cdv A outer s H vs Q E hr h => ?_)) (fun _ _ _ _ _ _ us hl => match us, hl with | [_, _, _], _ => rfl)
  · obtain ⟨v, t, x, y, rfl, _⟩ := h
    rfl
  · obtain ⟨v, t, x, y, rfl, ht, ok, hx, hy, q⟩ := h
    have nd := c_steps_between.nd
    refine ⟨_, PSs.nox (pss_cons (ps_asg (pe_tup (pa_cons (pe_kn W hr (pa_cons (pv 0) (pa_cons (pv 1) pa_nil))) (pa_cons (pe_kn W hr (pa_cons (pv 0) (pa_cons (pv 2) pa_nil))) pa_nil)))
        (pg_tup rfl (pgs_cons (pg_name (i := 3) nd rfl (.inl rfl) (.inl rfl)) (pgs_cons (pg_name (i := 4) nd rfl (.inr rfl) (.inl rfl)) pgs_nil))))
      (pss_cons (ps_set (i := 5) nd rfl (.inl rfl) (pe_ix ix_list (pe_lcf (own := [("place", 6)]) (g := gName 6) nd (pi_list (pv 3)) (blkOk_by (N := ["tree", "one", "other", "ahead", "behind", "meet", "place"]) (sc := defScope s_steps_between) (by decide +kernel))
          (fun _ _ _ _ _ => pg_name (i := 6) nd rfl (.inl rfl) (.inr rfl)) (tt := tTest (tOp (rIn K false) (tVar 6) (tVar 4))) (fun _ _ _ _ _ => pt_cmpR op_in_seq (pv 6) (pv 4) rfl) (fun _ _ _ _ _ => pv 6)) pe_int (fun _ _ => rfl)))
      (pss_one (ps_ret (pe_op op_cat (pe_op op_cat (pe_slice sl_list (pv 3) po_none (po_some (pe_bm PySem.F.plainAttrs_list PySem.F.slot_list_index PySem.F.type_list_index mt_idx (pv 3) (pa_cons (pv 5) pa_nil)))) (pe_lst (pa_cons (pv 5) pa_nil)))
          (pe_revL (pe_slice sl_list (pv 4) po_none (po_some (pe_bm PySem.F.plainAttrs_list PySem.F.slot_list_index PySem.F.type_list_index mt_idx (pv 4) (pa_cons (pv 5) pa_nil)))))))))), ?_⟩
    refine ⟨_, rfl, _, rfl, v, t, x, rfl, ht, ok, hx, fun l1 H1 s1 n1 e1 => ?_⟩
    refine ⟨_, rfl, _, rfl, v, t, y, rfl, stb_nats _ _ _ _ (kt s1) ht, ok, hy, fun l2 H2 s2 n2 e2 => ?_⟩
    -- the pair, unpacked
    refine ⟨by show 2 ≤ sizeLine; decide, fun T hT => ?_⟩
    have s3 : Same H2 (upd H2 T (.tup [.ref l1, .ref l2])) := sm_new hT
    generalize hH3 : upd H2 T (.tup [.ref l1, .ref l2]) = H3 at s3
    have hT3 : H3 T = some (.tup [.ref l1, .ref l2]) := by rw [← hH3, upd_same]
    refine ⟨T, [.ref l1, .ref l2], rfl, SqT.of hT3, rfl, .ref l1, [.ref l2], rfl, .ref l2, [], rfl, rfl, ?_⟩
    have e13 : H3 l1 = some (.lst (nvs (anc t x))) := s3 _ _ (s2 _ _ e1)
    have e23 : H3 l2 = some (.lst (nvs (anc t y))) := s3 _ _ e2
    have sm3 : Same H H3 := (s1.trans s2).trans s3
    have lx : (anc t x).length ≤ 1000 := Nat.le_trans (anc_len t x) (by have := ok.1; omega)
    have ly : (anc t y).length ≤ 1000 := Nat.le_trans (anc_len t y) (by have := ok.1; omega)
    -- meet
    refine ⟨.ref l1, rfl, l1, rfl, ⟨_, SqL.of e13⟩, ?_⟩
    refine lc_lstF stb_nat (Stb.d stb_nat) e13 (nvs_pd (anc t x)) (len_small lx) (fun z => decide (z ∈ anc t y)) (fun z => z) (fun D b z H4 Kn Ks hacc hb s4 r kn ks => ⟨rfl, ?_⟩) (fun D ys H4 hD s4 e4 p4 => ?_)
    · have r' : z = .int (b : Int) := r
      subst r'
      have e24 := s4 _ _ e23
      refine ⟨_, rfl, _, rfl, l2, nvs (anc t y), rfl, .inl (SqL.of e24), rfl, nvs_flat _, ?_⟩
      refine ⟨inV (.int (b : Int)) (nvs (anc t y)), rfl, ?_⟩
      rw [nvs_in]
      by_cases hin : b ∈ anc t y
      · rw [decide_eq_true hin]
        exact iteT ⟨_, rfl, kn (decide_eq_true hin) _ H4 (Same.refl H4) rfl⟩
      · rw [decide_eq_false hin]
        exact iteF (ks (decide_eq_false hin) H4 (Same.refl H4))
    · rw [List.map_id'] at p4
      have hys := nvs_of p4
      subst hys
      obtain ⟨m, hm⟩ : ∃ m, ((anc t x).filter fun z => decide (z ∈ anc t y)).head? = some m := by
        cases e : (anc t x).filter fun z => decide (z ∈ anc t y) with
        | nil =>
          have : (0 : Nat) ∈ (anc t x).filter fun z => decide (z ∈ anc t y) := List.mem_filter.mpr ⟨anc_root t x, decide_eq_true (anc_root t y)⟩
          rw [e] at this; simp at this
        | cons a r => exact ⟨a, rfl⟩
      have hmem := List.mem_filter.mp (List.mem_of_mem_head? (by rw [hm]; exact rfl))
      have hmy : m ∈ anc t y := of_decide_eq_true hmem.2
      have e14 := s4 _ _ e13
      have e24 := s4 _ _ e23
      refine ⟨D, _, 0, .int (m : Int), rfl, rfl, SqL.of e4, atI_nat (j := 0) (nvs_get (by rw [← List.head?_eq_getElem?]; exact hm)), ?_⟩
      have smH4 : Same H H4 := sm3.trans s4
      -- ahead[:ahead.index(meet)]
      refine ⟨.ref l1, rfl, .ref l1, rfl, .inl ⟨rfl, _, SqL.of e14⟩, .int (m : Int), rfl, ?_⟩
      refine idx_nvs e14 hmem.1 fun i hi => ⟨i, rfl, l1, _, rfl, SqL.of e14, fun p5 n5 => ?_⟩
      rw [cut_to, nvs_take]
      have s5 : Same H4 (upd H4 p5 (.lst (nvs ((anc t x).take i)))) := sm_new n5
      generalize hH5 : upd H4 p5 (.lst (nvs ((anc t x).take i))) = H5 at s5
      have e55 : H5 p5 = some (.lst (nvs ((anc t x).take i))) := by rw [← hH5, upd_same]
      -- [meet]
      refine ⟨_, rfl, by show 1 ≤ sizeLine; decide, fun p6 n6 => ?_⟩
      have s6 : Same H5 (upd H5 p6 (.lst [.int (m : Int)])) := sm_new n6
      generalize hH6 : upd H5 p6 (.lst [.int (m : Int)]) = H6 at s6
      have e66 : H6 p6 = some (.lst (nvs [m])) := by rw [← hH6, upd_same]; rfl
      have e56 := s6 _ _ e55
      refine ⟨p5, p6, _, _, rfl, rfl, e56, e66, small_len ?_, fun p7 n7 => ?_⟩
      · rw [nvs_len, nvs_len, List.length_take, List.length_singleton]
        have := anc_len t x
        have := ok.1
        omega
      rw [← nvs_app]
      have s7 : Same H6 (upd H6 p7 (.lst (nvs ((anc t x).take i ++ [m])))) := sm_new n7
      generalize hH7 : upd H6 p7 (.lst (nvs ((anc t x).take i ++ [m]))) = H7 at s7
      have e77 : H7 p7 = some (.lst (nvs ((anc t x).take i ++ [m]))) := by rw [← hH7, upd_same]
      have e27 := s7 _ _ (s6 _ _ (s5 _ _ e24))
      -- behind[:behind.index(meet)][::-1]
      refine ⟨.ref l2, rfl, .ref l2, rfl, .inl ⟨rfl, _, SqL.of e27⟩, .int (m : Int), rfl, ?_⟩
      refine idx_nvs e27 hmy fun j hj => ⟨j, rfl, l2, _, rfl, SqL.of e27, fun p8 n8 => ?_⟩
      rw [cut_to, nvs_take]
      have s8 : Same H7 (upd H7 p8 (.lst (nvs ((anc t y).take j)))) := sm_new n8
      generalize hH8 : upd H7 p8 (.lst (nvs ((anc t y).take j))) = H8 at s8
      have e88 : H8 p8 = some (.lst (nvs ((anc t y).take j))) := by rw [← hH8, upd_same]
      refine ⟨p8, _, rfl, SqL.of e88, fun p9 n9 => ?_⟩
      rw [nvs_rev]
      have s9 : Same H8 (upd H8 p9 (.lst (nvs ((anc t y).take j).reverse))) := sm_new n9
      generalize hH9 : upd H8 p9 (.lst (nvs ((anc t y).take j).reverse)) = H9 at s9
      have e99 : H9 p9 = some (.lst (nvs ((anc t y).take j).reverse)) := by rw [← hH9, upd_same]
      have e79 := s9 _ _ (s8 _ _ e77)
      have smH9 : Same H H9 := ((((smH4.trans s5).trans s6).trans s7).trans s8).trans s9
      refine ⟨p7, p9, _, _, rfl, rfl, e79, e99, small_len ?_, fun p10 n10 => ?_⟩
      · rw [nvs_len, nvs_len, List.length_append, List.length_take, List.length_singleton, List.length_reverse, List.length_take]
        have := anc_len t x
        have := anc_len t y
        have := ok.1
        omega
      · rw [← nvs_app, steps_path t x y m i j hm hi hj]
        exact q p10 _ (smH9.trans (sm_new n10)) (smH9.free n10) upd_same
end
end Jr
set_option Elab.async false
set_option linter.all false
set_option maxRecDepth 100000
set_option maxHeartbeats 4000000
namespace Jr
open PySem PySem.Spec PyProof.Rows L2
/-! ### tuple(..), list(range(..)) -/
structure aTuple (K : PySem.W.Frag) (xs : List V) (H : Hp) (Q : VK) : Prop where
  ex : ∃ p ys, xs = [.ref p] ∧ ((SqL K H p ys ∧ ∀ l, H l = none → Q (.ref l) (upd H l (.tup ys))) ∨ (SqT K H p ys ∧ Q (.ref p) H))
theorem pe_tuple {X : Cx} {K : PySem.W.Frag} {e : Expr} {te : TE} {p1 pos : Pos} (T : Tx X.mg) (he : PE X e te) (hK : X.K = K := by rfl) (hg : Gl X "tuple" := by rfl) (h1 : starEach [e] X.env = (false, eval e X.env) :: starEach [] X.env := by rfl) :
    PE X (.Call (.Name "tuple" p1) [e] [] pos) (tCB (aTuple K) (tCons te tNil)) := by
  subst hK
  exact pe_callTy (callR_of call_tuple_of fun _ _ _ h => h.ex) hg T.tuple boot_tuple (pa_cons he pa_nil h1) (by decide) (by decide) h1 rfl
theorem tuple_lst {K : PySem.W.Frag} {H : Hp} {a : Addr} {xs : List V} {Q : VK} (h : H a = some (.lst xs)) (q : ∀ l, H l = none → Q (.ref l) (upd H l (.tup xs))) : aTuple K [.ref a] H Q := ⟨a, xs, rfl, .inl ⟨SqL.of h, q⟩⟩
theorem rgV_nat (n : Nat) : rgV 0 (n : Int) = nvs (List.range n) := by
  unfold rgV nvs
  rw [Int.sub_zero, Int.toNat_natCast]
  refine List.map_congr_left fun i _ => ?_
  rw [Int.zero_add]
/-! ### rows of numbers -/
def RowR : Rp (List Nat) := fun H v ns => ∃ q, v = .ref q ∧ H q = some (.lst (nvs ns))
def RowD : Addr → Rp (List Nat) := fun D H v ns => ∃ q, v = .ref q ∧ q ≠ D ∧ H q = some (.lst (nvs ns))
theorem std_row : StD RowD := fun D H H' v a u ⟨q, e, ne, h⟩ => ⟨q, e, ne, u.2 q _ ne h⟩
theorem RowD.row {D : Addr} {H : Hp} {v : V} {ns : List Nat} (h : RowD D H v ns) : RowR H v ns := let ⟨q, e, _, h⟩ := h; ⟨q, e, h⟩
theorem RowR.same {H H' : Hp} (s : Same H H') {v : V} {ns : List Nat} (h : RowR H v ns) : RowR H' v ns := let ⟨q, e, h⟩ := h; ⟨q, e, s _ _ h⟩
def MatR : Rp (List (List Nat)) := fun H v m => ∃ l xs, v = .ref l ∧ H l = some (.lst xs) ∧ Paired (RowR H) xs m
theorem MatR.same {H H' : Hp} (s : Same H H') {v : V} {m : List (List Nat)} (h : MatR H v m) : MatR H' v m := let ⟨l, xs, e, h, p⟩ := h; ⟨l, xs, e, s _ _ h, Paired.mono (fun _ _ r => RowR.same s r) p⟩
/-- a table whose rows are new since H0 -/
def RowE (H0 : Hp) : Addr → Rp (List Nat) := fun D H v ns => ∃ q, v = .ref q ∧ H0 q = none ∧ q ≠ D ∧ H q = some (.lst (nvs ns))
theorem std_rowE (H0 : Hp) : StD (RowE H0) := fun D H H' v a u ⟨q, e, n, ne, h⟩ => ⟨q, e, n, ne, u.2 q _ ne h⟩
def MatN (H0 : Hp) : Rp (List (List Nat)) := fun H v m => ∃ l xs, v = .ref l ∧ H l = some (.lst xs) ∧ Paired (fun v ns => ∃ q, v = .ref q ∧ H0 q = none ∧ H q = some (.lst (nvs ns))) xs m
theorem MatN.mat {H0 H : Hp} {v : V} {m : List (List Nat)} (h : MatN H0 H v m) : MatR H v m := let ⟨l, xs, e, h, p⟩ := h; ⟨l, xs, e, h, Paired.mono (fun _ _ ⟨q, e, _, h⟩ => ⟨q, e, h⟩) p⟩
def gapsM (t : List Nat) : List (List Nat) := (List.range (t.length + 1)).map fun x => (List.range (t.length + 1)).map fun y => dist t x y
section
variable {P : Program} {w : World} {K : PySem.W.Frag} {mg : Str → Option Value} {base : Heap} {f : Addr} {fd : FuncData}
/-! ### way, gaps -/
def sp_way : Sp := fun vs H Q _ => ∃ v t, ∃ x y : Nat, vs = [v, .int x, .int y] ∧ NatsT H v t ∧ TreeOk t ∧ x ≤ t.length ∧ y ≤ t.length ∧ ∀ u H', Same H H' → NatsT H' u (path t x y) → Q u H'
theorem k_way (T : Tx mg) (W1 : Kn P w K mg base "check_tree" 4 ["thing"] sp_check_tree) (W2 : Kn P w K mg base "check_place" 3 ["tree", "thing"] sp_check_place) (W3 : Kn P w K mg base "steps_between" 2 ["tree", "one", "other"] sp_steps)
    (F : FnP K "way" s_way f fd) (g : mg "way" = some (.ref f)) : Kn P w K mg base "way" 5 ["tree", "one", "other"] sp_way := by
  refine kn_of F g (F.ok c_way (fun vs H Q E h => ?_) (fun cdv A outer s H vs Q E hr h => ?_)) (fun _ _ _ _ _ _ us hl => match us, hl with | [_, _, _], _ => rfl)
  · obtain ⟨v, t, x, y, rfl, _⟩ := h
    rfl
  · obtain ⟨v, t, x, y, rfl, ht, ok, hx, hy, q⟩ := h
    refine ⟨_, PSs.nox (pss_cons (ps_expr (pe_kn W1 hr (pa_cons (pv 0) pa_nil))) (pss_cons (ps_expr (pe_kn W2 hr (pa_cons (pv 0) (pa_cons (pv 1) pa_nil)))) (pss_cons (ps_expr (pe_kn W2 hr (pa_cons (pv 0) (pa_cons (pv 2) pa_nil))))
      (pss_one (ps_ret (pe_tuple T (pe_kn W3 hr (pa_cons (pv 0) (pa_cons (pv 1) (pa_cons (pv 2) pa_nil)))))))))), ?_⟩
    refine ⟨_, rfl, v, t, rfl, ht, ok, fun H1 s1 => ?_⟩
    have ht1 := stb_nats _ _ _ _ (kt s1) ht
    refine ⟨_, rfl, _, rfl, v, t, x, rfl, ht1, hx, fun H2 s2 => ?_⟩
    have ht2 := stb_nats _ _ _ _ (kt s2) ht1
    refine ⟨_, rfl, _, rfl, v, t, y, rfl, ht2, hy, fun H3 s3 => ?_⟩
    have ht3 := stb_nats _ _ _ _ (kt s3) ht2
    refine ⟨_, rfl, _, rfl, _, rfl, v, t, x, y, rfl, ht3, ok, hx, hy, fun l H4 s4 n4 e4 => ?_⟩
    refine tuple_lst e4 fun u hu => ?_
    exact q _ _ ((((s1.trans s2).trans s3).trans s4).trans (sm_new hu)) ⟨u, _, rfl, upd_same, nvs_pd _⟩
def sp_gaps : Sp := fun vs H Q _ => ∃ v t, vs = [v] ∧ NatsT H v t ∧ TreeOk t ∧ ∀ l H', Same H H' → H l = none → MatN H H' (.ref l) (gapsM t) → Q (.ref l) H'
theorem k_gaps (T : Tx mg) (W3 : Kn P w K mg base "steps_between" 2 ["tree", "one", "other"] sp_steps)
    (F : FnP K "gaps" s_gaps f fd) (g : mg "gaps" = some (.ref f)) : Kn P w K mg base "gaps" 3 ["tree"] sp_gaps := by
  refine kn_of F g (F.ok c_gaps (fun vs H Q E h => ?_) (fun cdv A outer s H vs Q E hr h => ?_)) (fun _ _ _ _ _ _ us hl => match us, hl with | [_], _ => rfl)
  · obtain ⟨v, t, rfl, _⟩ := h
    rfl
  · obtain ⟨v, t, rfl, ht, ok, q⟩ := h
    have nd := c_gaps.nd
    refine ⟨_, PSs.nox (pss_cons (ps_set (i := 1) nd rfl (.inr rfl) (pe_listRg rfl (by rfl) T.list (prg_1 (by rfl) T.range (pe_op op_add (pe_len T (pv 0)) pe_int))))
      (pss_one (ps_ret (pe_lcm (own := [("one", 3)]) (g := gName 3) nd (pi_list (pv 1)) (blkOk_by (N := ["tree", "numbers", "other", "one"]) (sc := defScope s_gaps) (by decide +kernel)) (fun _ _ _ _ _ => pg_name (i := 3) nd rfl (.inr rfl) (.inl rfl))
        (te := tLm (iList K (tVar 1)) (gName 2) (tOp (rI0 fun i j => .int (i - j)) (tCB (aLen K) (tCons (tCall sp_steps [] E0 (tCons (tVar 0) (tCons (tVar 3) (tCons (tVar 2) tNil)))) tNil)) (tC (.int 1))) [2])
        (fun _ _ _ _ _ => pe_lcm (own := [("other", 2)]) (g := gName 2) nd (pi_list (pv 1)) (blkOk_by (N := ["tree", "numbers", "other", "one"]) (sc := relS _ (defScope s_gaps)) (by decide +kernel)) (fun _ _ _ _ _ => pg_name (i := 2) nd rfl (.inl rfl) (.inr rfl))
          (fun _ _ _ _ _ => pe_op op_sub (pe_len T (pe_kn W3 hr (pa_cons (pv 0) (pa_cons (pv 3) (pa_cons (pv 2) pa_nil)))) ) pe_int)))))), ?_⟩
    obtain ⟨a, xs, rfl, ha, pd⟩ := ht
    have hxs := nvs_of pd
    subst hxs
    refine ⟨.ref a, rfl, ?_⟩
    refine len_tup ha (nvs_len t) ?_
    refine ⟨_, _, rfl, rfl, _, rfl, RgOk.of_le (by omega) (by have := ok.1; omega) (by omega) (by omega), fun nl hn => ?_⟩
    have er : rgV 0 ((t.length : Int) + 1) = nvs (List.range (t.length + 1)) := rgV_nat (t.length + 1)
    rw [er]
    have s1 : Same H (upd H nl (.lst (nvs (List.range (t.length + 1))))) := sm_new hn
    generalize hH1 : upd H nl (.lst (nvs (List.range (t.length + 1)))) = H1 at s1
    have e1 : H1 nl = some (.lst (nvs (List.range (t.length + 1)))) := by rw [← hH1, upd_same]
    have lr : (List.range (t.length + 1)).length ≤ 100000 := by rw [List.length_range]; have := ok.1; omega
    refine ⟨.ref nl, rfl, nl, rfl, ⟨_, SqL.of e1⟩, ?_⟩
    refine lc_lstP stb_nat (std_rowE H) e1 (nvs_pd _) lr (fun x => (List.range (t.length + 1)).map fun y => dist t x y) (fun D x vx H2 Kn hacc hx s2 rx kn => ⟨rfl, ?_⟩) (fun D ys H2 hD s2 e2 p2 => ?_)
    · have rx' : vx = .int (x : Int) := rx
      subst rx'
      have e12 := s2 _ _ e1
      have hx' := List.mem_range.mp hx
      refine ⟨.ref nl, rfl, nl, rfl, ⟨_, SqL.of e12⟩, ?_⟩
      refine lc_lstP stb_nat (Stb.d stb_nat) e12 (nvs_pd _) lr (fun y => dist t x y) (fun D2 y vy H3 Kn3 hacc3 hy s3 ry kn3 => ⟨rfl, ?_⟩) (fun D2 ys H3 hD2 s3 e3 p3 => ?_)
      · have ry' : vy = .int (y : Int) := ry
        subst ry'
        have hy' := List.mem_range.mp hy
        have ht3 : NatsT H3 (.ref a) t := ⟨a, _, rfl, s3 _ _ (s2 _ _ (s1 _ _ ha)), nvs_pd t⟩
        refine ⟨_, rfl, _, rfl, _, rfl, .ref a, t, x, y, rfl, ht3, ok, by omega, by omega, fun l H4 s4 n4 e4 => ?_⟩
        refine len_lst e4 (nvs_len _) ?_
        refine ⟨_, _, rfl, rfl, ?_⟩
        refine kn3 _ H4 s4 ?_
        show V.int _ = V.int _
        rw [path_len]
        congr 1
        omega
      · refine kn _ H3 s3 ⟨D2, rfl, (s1.trans s2).free hD2, fun e => ?_, by rw [e3, nvs_of p3]⟩
        obtain ⟨acc, hacc⟩ := hacc
        rw [e, hacc] at hD2
        cases hD2
    · exact q D H2 (s1.trans s2) (s1.free hD) ⟨D, ys, rfl, e2, Paired.mono (fun _ _ ⟨q, e, n, _, h⟩ => ⟨q, e, n, h⟩) p2⟩
end
end Jr
set_option Elab.async false
set_option linter.all false
set_option maxRecDepth 100000
set_option maxHeartbeats 4000000
/-! `first, *rest = a tuple or a list`. -/
namespace Jr
open PySem PySem.Spec PyProof.Rows L2
theorem nolen_tit : typeLookup (.type "tuple_iterator") "__len__" = pure none := by rw [typeLookup_type, builtinLookup_eq_fast]; kernel_rfl
theorem hint_tit : typeLookup (.type "tuple_iterator") "__length_hint__" = pure (some (.builtin "tuple_iterator.__length_hint__")) := by rw [typeLookup_type, builtinLookup_eq_fast]; kernel_rfl
theorem nolen_lit : typeLookup (.type "list_iterator") "__len__" = pure none := by rw [typeLookup_type, builtinLookup_eq_fast]; kernel_rfl
theorem hint_lit : typeLookup (.type "list_iterator") "__length_hint__" = pure (some (.builtin "list_iterator.__length_hint__")) := by rw [typeLookup_type, builtinLookup_eq_fast]; kernel_rfl
theorem shifted {prog : Program} {w : World} {A : Around} {I : Addr} {fp wr : List Addr} {n : Nat} {P : Nat → Value → Prop} {St : Nat → Heap → Prop} (W : Walks prog w A I fp wr (n + 1) P St) :
    Walks prog w A I fp wr n (fun i => P (i + 1)) (fun i => St (i + 1)) where
  sub := W.sub
  frame := fun i h h' st k => W.frame (i + 1) h h' st k
  item := fun i s Q E hi st hQ => W.item (i + 1) s Q E (by omega) st hQ
  done := fun s Q E st hQ => W.done s Q E st hQ
  self := fun i s Q E st hQ => W.self (i + 1) s Q E st hQ
section
variable {prog : Program} {w : World} {A : Around} {E : Value → Shared → Prop} {s : Shared} {it : Addr} {fp wr : List Addr} {n : Nat} {P : Nat → Value → Prop} {St : Nat → Heap → Prop}
theorem collect_T {T : String} {Q : List Value → Shared → Prop} (W : Walks prog w A.in1 it fp wr n P St) (hT : ∀ (i : Nat) (s : Shared), St i s.heap → s.TypeIs (.ref it) T) (hst : St 0 s.heap) (hfp : ∀ b ∈ fp, b < s.heap.objs.size) (hI : it ∈ fp) (hn : n ≤ sizeLine)
    (hTT : T = "tuple_iterator" ∨ T = "list_iterator") (h2 : (Value.type T == Value.type "list") = false) (h3 : (Value.type T == Value.type "tuple") = false)
    (hlen : ∀ (s : Shared) (Q : Bool → Shared → Prop), s.TypeIs (.ref it) T → Q false s → wpAny (model prog w) A.in1 (Builtin.List.listLengthHint (.ref it)) Q (fun _ _ => False) s)
    (hQ : ∀ s' acc, Moved wr (fun a b => b = a) s s' → ItemsOf P acc n → Q acc.toList s') : wpAny (model prog w) A (collect (.ref it)) Q E s := by
  have hSf : s.heap.objs.size ∉ fp := fun hm => Nat.lt_irrefl _ (hfp _ hm)
  have hSI : s.heap.objs.size ≠ it := fun e => hSf (e ▸ hI)
  unfold collect
  refine wpAny_bind (wpAny_runValue (codeAny_builtin F.entry_proto_collect ?_))
  rw [Around.under_plainId F.plain_proto_collect _]
  show wpAny _ A.in1 (newList [] >>= fun l => again (.builtin "list.__iadd__" ⟨[l, .ref it], []⟩)) _ _ s
  refine wpAny_bind (wpAny_newObj_type ?_)
  refine wpAny_pure ⟨plainId_quiet F.plain_list_iadd _, codeAny_builtin F.entry_list_iadd ?_⟩
  rw [Around.under_plainId F.plain_list_iadd _]
  have hst₁ := W.frame 0 s.heap (s.heap.push { cls := .type "list", data := .seq ([] : List Value).toArray }) hst fun b _ o e => Heap.get?_push_of_some _ e
  show wpAny _ A.in1 (Builtin.List.listExtendWith (.ref s.heap.objs.size) (.ref it) (.ref s.heap.objs.size)) _ _ _
  unfold Builtin.List.listExtendWith
  have hT1 := hT 0 { s with heap := s.heap.push { cls := .type "list", data := .seq ([] : List Value).toArray } } hst₁
  refine wpAny_bind (wpAny_typeOf hT1 ?_)
  have h1 : Builtin.List.listSameRef (.ref s.heap.objs.size) (.ref it) = false := by simp [Builtin.List.listSameRef, hSI]
  simp only [h1, h2, h3, Bool.or_false, Bool.false_eq_true, if_false]
  refine wpAny_bind (W.self 0 _ _ _ hst₁ ?_)
  refine wpAny_bind (wpAny_holding ?_)
  refine wpAny_mono (hlen _ _ hT1 ?_) (fun _ _ h => h) (fun _ _ h => h.elim)
  rw [if_neg (by rcases hTT with rfl | rfl <;> decide)]
  have hS₁ : (s.heap.push { cls := .type "list", data := .seq ([] : List Value).toArray }).get? s.heap.objs.size = some { cls := .type "list", data := .seq ([] : List Value).toArray } := Heap.get?_push_size _ rfl
  refine wpAny_pure ⟨plainId_quiet F.plain_extend_loop _, codeAny_extend_loopS W.toS hn _ hSf _ n 0 _ _ _ rfl (Nat.zero_le _) hst₁ hS₁ (ItemsOf.nil P) fun s' acc' c' hm hS' hacc => ?_⟩
  show wpAny _ A (load s.heap.objs.size >>= _) _ _ s'
  refine wpAny_bind (wpAny_load hS' ?_)
  exact wpAny_pure (hQ s' acc' (Moved.drop_new (o := { cls := .type "list", data := .seq ([] : List Value).toArray }) (tk := s.toks) hm (Nat.le_refl _)) hacc)
theorem hint_t {Q : Bool → Shared → Prop} (hT : s.TypeIs (.ref it) "tuple_iterator") (h : Q false s) : wpAny (model prog w) A (Builtin.List.listLengthHint (.ref it)) Q E s := by
  unfold Builtin.List.listLengthHint
  refine wpAny_bind (wpAny_specialOf hT nolen_tit ?_)
  show wpAny _ _ (specialOf (Value.ref it) (Str.ofString "__length_hint__") >>= _) _ _ _
  refine wpAny_bind (wpAny_specialOf hT hint_tit ?_)
  generalize hid : ("tuple_iterator.__length_hint__" : String) = id0
  wp_delta
  rw [show splitId id0 = some ("tuple_iterator", "__length_hint__") from by subst hid; decide +kernel]
  subst hid
  refine wpAny_bind (wpAny_isInstance (b := true) hT (by rw [isSubtype_type]; kernel_rfl) ?_)
  exact wpAny_pure h
theorem hint_l {Q : Bool → Shared → Prop} (hT : s.TypeIs (.ref it) "list_iterator") (h : Q false s) : wpAny (model prog w) A (Builtin.List.listLengthHint (.ref it)) Q E s := by
  unfold Builtin.List.listLengthHint
  refine wpAny_bind (wpAny_specialOf hT nolen_lit ?_)
  show wpAny _ _ (specialOf (Value.ref it) (Str.ofString "__length_hint__") >>= _) _ _ _
  refine wpAny_bind (wpAny_specialOf hT hint_lit ?_)
  generalize hid : ("list_iterator.__length_hint__" : String) = id0
  wp_delta
  rw [show splitId id0 = some ("list_iterator", "__length_hint__") from by subst hid; decide +kernel]
  subst hid
  refine wpAny_bind (wpAny_isInstance (b := true) hT (by rw [isSubtype_type]; kernel_rfl) ?_)
  exact wpAny_pure h
theorem items_shift {items : Array Value} {x : Value} {xs : List Value} (e : items.toList = x :: xs) {acc : Array Value} (h : ItemsOf (fun i v => items[i + 1]? = some v) acc xs.length) : acc.toList = xs := by
  obtain ⟨hl, hi⟩ := h
  apply List.ext_getElem?
  intro i
  have hx : ∀ j, items[j]? = (x :: xs)[j]? := fun j => by rw [← e, Array.getElem?_toList]
  by_cases hi' : i < xs.length
  · have h2 : acc[i]? = some (acc[i]'(by omega)) := by simp [hl, hi']
    have h1 : items[i + 1]? = _ := hi i _ h2
    rw [hx] at h1
    simp only [List.getElem?_cons_succ] at h1
    rw [h1, Array.getElem?_toList, h2]
  · rw [List.getElem?_eq_none (by simp [hl]; omega), List.getElem?_eq_none (by omega)]
theorem unpack_star_t {t : Addr} {items : Array Value} {x : Value} {xs : List Value} {Q : List Value → Shared → Prop} (hh : A.handled = none) (ht : IsTup s.heap t items) (e : items.toList = x :: xs) (hsz : xs.length ≤ sizeLine)
    (hQ : ∀ (h' : Heap) (tk : Nat), (∀ b o, s.heap.get? b = some o → h'.get? b = some o) → Q [x, .ref h'.objs.size] { s with heap := h'.push { cls := .type "list", data := .seq xs.toArray }, toks := tk }) : wpAny (model prog w) A (unpackItems (.ref t) 2 (some 1)) Q E s := by
  have hlt : t ≠ s.heap.objs.size := by obtain ⟨o, ho, _⟩ := ht; exact Nat.ne_of_lt (Heap.lt_size ho)
  have hn : items.size = xs.length + 1 := by rw [← Array.length_toList, e]; rfl
  unfold unpackItems
  refine wpAny_bind ?_
  unfold notIterableAtAll
  refine wpAny_bind (wpAny_specialOf ht.typeIs slot_tuple_iter.lookup ?_)
  refine wpAny_pure ?_
  simp only [Bool.false_eq_true, if_false]
  refine wpAny_bind (wpAny_holding (iter_tuple ht ?_))
  refine wpAny_bind (wpAny_holding (draw_tuple hlt 1 0 _ _ ⟨_, Heap.get?_push_size _ rfl, rfl, rfl⟩ (ht.push _) (by omega) fun h₁ hit₁ hs₁ => ?_))
  have hd : List.take 1 (List.drop 0 items.toList) = [x] := by rw [e]; rfl
  rw [hd]
  rw [if_neg (by simp)]
  have ht₁ : IsTup h₁ t items := (ht.push _).extBut hs₁.extBut hlt
  have hb1 : t < h₁.objs.size := by obtain ⟨o, ho, _⟩ := ht₁; exact Heap.lt_size ho
  have hb2 : s.heap.objs.size < h₁.objs.size := by obtain ⟨o, ho, _⟩ := hit₁; exact Heap.lt_size ho
  have W := Walks.tuple (prog := prog) (w := w) (A := A.in1) hh s.heap.objs.size t hlt items
  rw [hn] at W
  refine wpAny_bind (wpAny_holding (collect_T (T := "tuple_iterator") (shifted W) (fun i s st => st.1.typeIs) ⟨hit₁, ht₁⟩ ?_ (by simp) hsz (.inl rfl) (by decide) (by decide) (fun s Q hT h => hint_t hT h) fun s' acc hm hacc => ?_))
  · intro b hb
    rcases List.mem_cons.mp hb with rfl | hb
    · exact hb2
    · rw [List.mem_singleton.mp hb]; exact hb1
  · rw [items_shift e hacc]
    rw [if_neg (by omega)]
    refine wpAny_bind (wpAny_newObj_type ?_ (by show (List.take _ _).toArray.size ≤ sizeLine; simpa using hsz))
    refine wpAny_pure ?_
    have e1 : xs.length - (2 - 1 - 1) = xs.length := by omega
    simp only [e1, List.take_length, List.drop_length, List.append_nil]
    rw [Moved.eq_with hm]
    refine hQ s'.heap s'.toks fun b o q => hm.heap b o (fun hmem => ?_) (hs₁.extBut b o (Nat.ne_of_lt (Heap.lt_size q)) (Heap.get?_push_of_some _ q))
    exact absurd (Heap.lt_size q) (by rw [List.mem_singleton.mp hmem]; exact Nat.lt_irrefl _)
theorem unpack_star_l {t : Addr} {items : Array Value} {x : Value} {xs : List Value} {Q : List Value → Shared → Prop} (hh : A.handled = none) (ht : s.heap.IsList t items) (e : items.toList = x :: xs) (hsz : xs.length ≤ sizeLine)
    (hQ : ∀ (h' : Heap) (tk : Nat), (∀ b o, s.heap.get? b = some o → h'.get? b = some o) → Q [x, .ref h'.objs.size] { s with heap := h'.push { cls := .type "list", data := .seq xs.toArray }, toks := tk }) : wpAny (model prog w) A (unpackItems (.ref t) 2 (some 1)) Q E s := by
  have hlt : t ≠ s.heap.objs.size := by obtain ⟨o, ho, _⟩ := ht; exact Nat.ne_of_lt (Heap.lt_size ho)
  have hn : items.size = xs.length + 1 := by rw [← Array.length_toList, e]; rfl
  have hx0 : items[0]? = some x := by
    have : items.toList[0]? = some x := by rw [e]; rfl
    simpa using this
  unfold unpackItems
  refine wpAny_bind ?_
  unfold notIterableAtAll
  refine wpAny_bind (wpAny_specialOf ht.typeIs slot_list_iter.lookup ?_)
  refine wpAny_pure ?_
  simp only [Bool.false_eq_true, if_false]
  refine wpAny_bind (wpAny_holding (wpAny_pyIter_list ht ?_))
  have W := Walks.list (prog := prog) (w := w) (A := A.in1) hh s.heap.objs.size t hlt items
  have W0 := Walks.list (prog := prog) (w := w) (A := A) hh s.heap.objs.size t hlt items
  rw [hn] at W W0
  refine wpAny_bind (wpAny_holding ?_)
  show wpAny _ _ (pyNext (.ref s.heap.objs.size) >>= _) _ _ _
  refine wpAny_bind (W0.item 0 _ _ _ (by omega) ⟨⟨_, Heap.get?_push_size _ rfl, rfl, rfl⟩, ht.push _⟩ fun v h₁ tk hv st1 hk1 => ?_)
  have hv' : v = x := by rw [hx0] at hv; cases hv; rfl
  subst hv'
  refine wpAny_bind (wpAny_holding (wpAny_pure (wpAny_pure ?_)))
  rw [if_neg (by simp)]
  have hb1 : t < h₁.objs.size := by obtain ⟨o, ho, _⟩ := st1.2; exact Heap.lt_size ho
  have hb2 : s.heap.objs.size < h₁.objs.size := by obtain ⟨o, ho, _⟩ := st1.1; exact Heap.lt_size ho
  refine wpAny_bind (wpAny_holding (collect_T (T := "list_iterator") (shifted W) (fun i s st => st.1.typeIs) st1 ?_ (by simp) hsz (.inr rfl) (by decide) (by decide) (fun s Q hT h => hint_l hT h) fun s' acc hm hacc => ?_))
  · intro b hb
    rcases List.mem_cons.mp hb with rfl | hb
    · exact hb2
    · rw [List.mem_singleton.mp hb]; exact hb1
  · rw [items_shift e hacc]
    rw [if_neg (by omega)]
    refine wpAny_bind (wpAny_newObj_type ?_ (by show (List.take _ _).toArray.size ≤ sizeLine; simpa using hsz))
    refine wpAny_pure ?_
    have e1 : xs.length - (2 - 1 - 1) = xs.length := by omega
    simp only [e1, List.take_length, List.drop_length, List.append_nil]
    rw [Moved.eq_with hm]
    refine hQ s'.heap s'.toks fun b o q => hm.heap b o (fun hmem => ?_) (hk1 b o (fun hmem => ?_) (Heap.get?_push_of_some _ q))
    · exact absurd (Heap.lt_size q) (by rw [List.mem_singleton.mp hmem]; exact Nat.lt_irrefl _)
    · exact absurd (Heap.lt_size q) (by rw [List.mem_singleton.mp hmem]; exact Nat.lt_irrefl _)
end
/-- first, *rest = .. -/
def gStar (K : PySem.W.Frag) (t : TGs) : TG := fun v σ H Q => ∃ a x xs, v = .ref a ∧ (SqT K H a (x :: xs) ∨ SqL K H a (x :: xs)) ∧ ∀ l, H l = none → t [x, .ref l] σ (upd H l (.lst xs)) Q
theorem pg_star {X : Cx} {es : List Expr} {k : Nat} {t : TGs} {pos : Pos} (h : PGs X es t) (hc : X.calm = true := by rfl)
    (hn : (assignEach es X.env).length = 2 := by rfl) (hst : (assignEach es X.env).findIdx? (·.1) = some 1 := by rfl) : PG X (.Tuple es k pos) (gStar X.K t) := by
  refine ⟨fun pins s σ H v u Q I r hw => ?_⟩
  obtain ⟨a, x, xs, e1, hq, hw⟩ := hw
  subst e1
  cases r
  rw [assign_Tuple]
  refine wpAny_bind (wpAny_standAt ?_)
  unfold unpack
  rw [hn, hst]
  rcases hq with hq | hq
  · obtain ⟨its, rv, ht, hz⟩ := I.tuple hq
    cases rv with
    | cons rx rr =>
      refine wpAny_bind (wpAny_holding (unpack_star_t (I.ok.hd hc) ht (List.toList_toArray ..) (by rw [← rr.length]; simp only [List.length_cons] at hz; omega) fun h' tk hk => ?_))
      have I1 : Inv X pins σ H { s with heap := h', toks := tk } := I.kept hk
      have I2 := I1.laid (t' := tk) (o := .lst xs) (fun b ob q => Heap.get?_push_of_some _ q) (Nat.le_refl _) ⟨by simp only [List.length_cons] at hz; omega, _, 0, rr, Heap.get?_push_size _ rfl⟩
      exact h.run pins _ σ _ [x, .ref h'.objs.size] _ Q I2 (.cons rx (.cons rfl .nil)) (hw _ (I1.hok.fresh (Nat.le_refl _)))
  · obtain ⟨its, rv, ht, hz⟩ := I.list hq
    cases rv with
    | cons rx rr =>
      refine wpAny_bind (wpAny_holding (unpack_star_l (I.ok.hd hc) ht.isList (List.toList_toArray ..) (by rw [← rr.length]; simp only [List.length_cons] at hz; omega) fun h' tk hk => ?_))
      have I1 : Inv X pins σ H { s with heap := h', toks := tk } := I.kept hk
      have I2 := I1.laid (t' := tk) (o := .lst xs) (fun b ob q => Heap.get?_push_of_some _ q) (Nat.le_refl _) ⟨by simp only [List.length_cons] at hz; omega, _, 0, rr, Heap.get?_push_size _ rfl⟩
      exact h.run pins _ σ _ [x, .ref h'.objs.size] _ Q I2 (.cons rx (.cons rfl .nil)) (hw _ (I1.hok.fresh (Nat.le_refl _)))
theorem pgs_st {X : Cx} {e : Expr} {t : TG} {p : Pos} (h1 : PG X e t) (hs : (assignEach [.Starred e p] X.env).map (·.2) = [assign e X.env] := by rfl) : PGs X [.Starred e p] (gCons t gNil) := by
  refine ⟨fun pins s σ H vs us Q I r h => ?_⟩
  obtain ⟨v, vr, e1, h⟩ := h
  subst e1
  cases r with
  | cons r rr =>
    rw [hs]
    refine assignInOrder_cons (thn (h1.run pins s σ H _ _ _ I r h) fun _ s1 ⟨σ1, H1, I1, q1⟩ => ?_)
    obtain ⟨e2, q2⟩ := q1
    subst e2
    cases rr
    exact assignInOrder_nil ⟨σ1, H1, I1, q2⟩
end Jr
set_option Elab.async false
set_option linter.all false
set_option maxRecDepth 100000
set_option maxHeartbeats 4000000
/-! A set comprehension with two clauses, of ints. -/
namespace Jr
open PySem PySem.Spec PyProof.Rows L2 PpSet
theorem addI_ok {X : Cx} {pins : List (Addr × Obj)} {σ : L2.St} {H : Hp} {s : Shared} {E : Value → Shared → Prop} {D : Addr} {S : Int → Bool} {n : Nat} {y : Int} {tk : Tok} {Q : Value → Shared → Prop} (I : L2.Inv X pins σ H s) (hD : H D = some (SetO X.w D S n)) (room : n + 1 < scanBound)
    (h : ∀ s', L2.Inv X pins σ (upd H D (SetO X.w D (fun j => S j || decide (j = y)) (if S y = true then n else n + 1))) s' → Q .none s') : wpAny (model X.prog X.w) X.A (call (.builtin "set.add") [.ref D, .int y tk]) Q E s := by
  have R := setO_get I hD
  refine setR_add R room fun h' sb new => ?_
  have he : ∃ u, h'.get? D = some u := by
    have ⟨o, _, _, _, ho, _⟩ := new
    exact ⟨o, ho⟩
  exact h _ (I.write (e := D) (t' := s.toks + 1) (by rw [hD]; trivial) (.inl rfl) (fun b u hb hu => (sb.2 b hb).trans hu) he (setO_new new))
theorem compTurn2_outS (elt t0 i0 t1 i1 : Expr) (ifs0 ifs1 : List Expr) (scope : Scope) (pos : Pos) (it acc : Value) (env : Env) :
    compTurn (.SetComp elt [⟨t0, i0, ifs0, 0⟩, ⟨t1, i1, ifs1, 0⟩] scope pos) 0 it acc env = (do
      standAt i0.pos
      match ← pyNext it with
      | none => pure (.done .next)
      | some v =>
        letOwnedTupleGo t0 it v
        assign t0 env v
        let mut ok := true
        for c in ifs0 do
          if ok then ok ← isTrue c env (eval c env)
        if ok then
          let x ← eval i1 env
          standAt i1.pos
          let x ← foldedSetIterable i1 env x
          let _ ← runOwn (.compStart (.SetComp elt [⟨t0, i0, ifs0, 0⟩, ⟨t1, i1, ifs1, 0⟩] scope pos) 1 (← holding [x] (pyIter x)) acc env) env
        again (.compLoop (.SetComp elt [⟨t0, i0, ifs0, 0⟩, ⟨t1, i1, ifs1, 0⟩] scope pos) 0 it acc env)) := by rfl
theorem compTurn2_inS (elt t0 i0 t1 i1 : Expr) (ifs0 ifs1 : List Expr) (scope : Scope) (pos : Pos) (it acc : Value) (env : Env) :
    compTurn (.SetComp elt [⟨t0, i0, ifs0, 0⟩, ⟨t1, i1, ifs1, 0⟩] scope pos) 1 it acc env = (do
      standAt i1.pos
      match ← pyNext it with
      | none => pure (.done .next)
      | some v =>
        letOwnedTupleGo t1 it v
        assign t1 env v
        let mut ok := true
        for c in ifs1 do
          if ok then ok ← isTrue c env (eval c env)
        if ok then
          (do let v ← eval elt env; standAt elt.pos; let _ ← call (.builtin "set.add") [acc, v])
        again (.compLoop (.SetComp elt [⟨t0, i0, ifs0, 0⟩, ⟨t1, i1, ifs1, 0⟩] scope pos) 1 it acc env)) := by rfl

section
variable {prog : Program} {w : World} {A : Around} {R : Result → Shared → Prop} {s : Shared} {elt t0 i0 t1 i1 : Expr} {ifs0 ifs1 : List Expr} {scope : Scope} {pos : Pos} {it acc : Value} {env : Env}
/-- the loop of the first clause -/
theorem compLoop2_outS (hs : ∀ x, foldedSetIterable i1 env x = pure x) (I : Nat → Shared → Prop)
    (turn : ∀ n s, I n s → wpAny (model prog w) A (pyNext it) (fun r s₁ => match r with
      | none => R (.ok .next) s₁
      | some v => wpAny (model prog w) A (letOwnedTupleGo t0 it v) (fun _ s₁' => wpAny (model prog w) A (assign t0 env v) (fun _ s₂ =>
          wpAny (model prog w) A (forIn ifs0 true fun c r => if r = true then do let ok ← isTrue c env (eval c env); pure (ForInStep.yield ok) else pure (ForInStep.yield r)) (fun ok s₃ =>
            if ok = true then wpAny (model prog w) A (eval i1 env) (fun x s₄ => wpAny (model prog w) A (pyIter x) (fun it1 s₅ =>
              codeAny (model prog w) A (.compStart (.SetComp elt [⟨t0, i0, ifs0, 0⟩, ⟨t1, i1, ifs1, 0⟩] scope pos) 1 it1 acc env) (fun r s' => match r with
                | .ok _ => ∃ m, m < n ∧ I m s'
                | .error _ => False) s₅) (notedBy (model prog w) A env fun e s' => R (.error e) s') s₄) (notedBy (model prog w) A env fun e s' => R (.error e) s') s₃
            else ∃ m, m < n ∧ I m s₃) (notedBy (model prog w) A env fun e s' => R (.error e) s') s₂) (notedBy (model prog w) A env fun e s' => R (.error e) s') s₁') (notedBy (model prog w) A env fun e s' => R (.error e) s') s₁) (notedBy (model prog w) A env fun e s' => R (.error e) s') s)
    (n : Nat) (h : I n s) :
    codeAny (model prog w) A (.compLoop (.SetComp elt [⟨t0, i0, ifs0, 0⟩, ⟨t1, i1, ifs1, 0⟩] scope pos) 0 it acc env) R s := by
  refine codeAny_loop rfl I (fun n s hI => ?_) n h
  show wpAny _ A ((compTurn (.SetComp elt [⟨t0, i0, ifs0, 0⟩, ⟨t1, i1, ifs1, 0⟩] scope pos) 0 it acc env).onRaise (fun x => do noteFrame x env; theTreesLotGoes x)) _ _ s
  refine wpAny_noted ?_
  rw [compTurn2_outS]
  refine wpAny_bind (wpAny_standAt (wpAny_bind (wpAny_mono (turn n s hI) (fun r s₁ h₁ => ?_) fun _ _ h' => h')))
  cases r with
  | none => exact wpAny_pure h₁
  | some v =>
    refine wpAny_bind (wpAny_mono h₁ (fun _ s₁' h₁' => ?_) fun _ _ h' => h')
    refine wpAny_bind (wpAny_mono h₁' (fun _ s₂ h₂ => wpAny_bind (wpAny_mono h₂ (fun ok s₃ h₃ => ?_) fun _ _ h' => h')) fun _ _ h' => h')
    cases ok with
    | false => exact wpAny_pure ⟨rfl, h₃⟩
    | true =>
      refine wpAny_bind (wpAny_mono h₃ (fun x s₄ h₄ => ?_) fun _ _ h' => h')
      refine wpAny_bind (wpAny_standAt (wpAny_bind (wpAny_of_eq (hs x) (wpAny_bind (wpAny_holding (wpAny_mono h₄ (fun it1 s₅ h₅ => ?_) fun _ _ h' => h'))))))
      refine wpAny_bind (wpAny_runOwn ?_)
      rw [Around.mark_none]
      refine codeAny_mono h₅ fun r s' hr => ?_
      cases r with
      | ok f =>
        first
          | exact wpAny_pure ⟨rfl, hr⟩
          | exact wpAny_bind (wpAny_pure (wpAny_pure ⟨rfl, hr⟩))
      | error e => exact hr.elim
/-- the loop of the second -/
theorem compLoop2_inS (I : Nat → Shared → Prop)
    (turn : ∀ n s, I n s → wpAny (model prog w) A (pyNext it) (fun r s₁ => match r with
      | none => R (.ok .next) s₁
      | some v => wpAny (model prog w) A (letOwnedTupleGo t1 it v) (fun _ s₁' => wpAny (model prog w) A (assign t1 env v) (fun _ s₂ =>
          wpAny (model prog w) A (forIn ifs1 true fun c r => if r = true then do let ok ← isTrue c env (eval c env); pure (ForInStep.yield ok) else pure (ForInStep.yield r)) (fun ok s₃ =>
            if ok = true then wpAny (model prog w) A (eval elt env) (fun x s₄ =>
              wpAny (model prog w) A (call (.builtin "set.add") [acc, x]) (fun _ s₅ => ∃ m, m < n ∧ I m s₅) (notedBy (model prog w) A env fun e s' => R (.error e) s') s₄) (notedBy (model prog w) A env fun e s' => R (.error e) s') s₃
            else ∃ m, m < n ∧ I m s₃) (notedBy (model prog w) A env fun e s' => R (.error e) s') s₂) (notedBy (model prog w) A env fun e s' => R (.error e) s') s₁') (notedBy (model prog w) A env fun e s' => R (.error e) s') s₁) (notedBy (model prog w) A env fun e s' => R (.error e) s') s)
    (n : Nat) (h : I n s) :
    codeAny (model prog w) A (.compLoop (.SetComp elt [⟨t0, i0, ifs0, 0⟩, ⟨t1, i1, ifs1, 0⟩] scope pos) 1 it acc env) R s := by
  refine codeAny_loop rfl I (fun n s hI => ?_) n h
  show wpAny _ A ((compTurn (.SetComp elt [⟨t0, i0, ifs0, 0⟩, ⟨t1, i1, ifs1, 0⟩] scope pos) 1 it acc env).onRaise (fun x => do noteFrame x env; theTreesLotGoes x)) _ _ s
  refine wpAny_noted ?_
  rw [compTurn2_inS]
  refine wpAny_bind (wpAny_standAt (wpAny_bind (wpAny_mono (turn n s hI) (fun r s₁ h₁ => ?_) fun _ _ h' => h')))
  cases r with
  | none => exact wpAny_pure h₁
  | some v =>
    refine wpAny_bind (wpAny_mono h₁ (fun _ s₁' h₁' => ?_) fun _ _ h' => h')
    refine wpAny_bind (wpAny_mono h₁' (fun _ s₂ h₂ => wpAny_bind (wpAny_mono h₂ (fun ok s₃ h₃ => ?_) fun _ _ h' => h')) fun _ _ h' => h')
    cases ok with
    | false => exact wpAny_pure ⟨rfl, h₃⟩
    | true =>
      exact wpAny_bind (wpAny_bind (wpAny_mono h₃ (fun x s₄ h₄ => wpAny_bind (wpAny_standAt (wpAny_bind (wpAny_mono h₄ (fun _ s₅ h₅ => wpAny_pure (wpAny_pure ⟨rfl, h₅⟩)) fun _ _ h' => h')))) fun _ _ h' => h'))
/-- the second clause's start -/
theorem compStart1_okS (h0 : codeAny (model prog w) A (.compLoop (.SetComp elt [⟨t0, i0, ifs0, 0⟩, ⟨t1, i1, ifs1, 0⟩] scope pos) 1 it acc env) R s)
    (h : wpAny (model prog w) A (pyIter it) (fun it' s' => codeAny (model prog w) A (.compLoop (.SetComp elt [⟨t0, i0, ifs0, 0⟩, ⟨t1, i1, ifs1, 0⟩] scope pos) 1 it' acc env) R s')
      (notedBy (model prog w) A env fun x s' => R (.error x) s') s) :
    codeAny (model prog w) A (.compStart (.SetComp elt [⟨t0, i0, ifs0, 0⟩, ⟨t1, i1, ifs1, 0⟩] scope pos) 1 it acc env) R s := by
  refine codeAny_of_tree ?_
  show wpAny _ _ ((compStart (.SetComp elt [⟨t0, i0, ifs0, 0⟩, ⟨t1, i1, ifs1, 0⟩] scope pos) 1 it acc env).onRaise (fun x => do noteFrame x env; standAt theWindowsPlace)) _ _ s
  refine wpAny_notedAt ?_
  unfold compStart
  show wpAny _ _ (ask >>= _) _ _ s
  refine wpAny_bind (wpAny_askSetting (wpAny_ite ?_))
  split
  · first
      | exact wpAny_bind (wpAny_pure (wpAny_pure (And.intro rfl h0)))
      | exact wpAny_pure (And.intro rfl h0)
  · first
      | exact wpAny_bind (wpAny_rule (wpAny_bind (wpAny_standAt (wpAny_bind (wpAny_mono h (fun it' s' h' => wpAny_pure (And.intro rfl h')) fun _ _ x => x)))))
      | (refine wpAny_bind (wpAny_rule ?_); show wpAny _ _ (standAt i1.pos >>= _) _ _ s; exact wpAny_bind (wpAny_standAt (wpAny_bind (wpAny_mono h (fun it' s' h' => wpAny_pure (And.intro rfl h')) fun _ _ x => x))))
end

section
variable {X : Cx}
def tSc2 (w : World) (wi : TI) (g : TG) (tt : TT) (wi1 : TI) (g1 : TG) (tt1 : TT) (te : TE) (vs vs1 : List Nat) : TE := fun σ H Q => wi σ H fun J H1 => ∀ D, H1 D = none → ∃ W : Nat → Nat → Hp → Prop, (∃ m, W 0 m (upd H1 D (SetO w D (fun _ => false) 0))) ∧ ∀ i m H, W i m H →
  (J.stop i H ∧ Q (.ref D) H) ∨ (J.go i H ∧ ∃ Nx : Hp → Prop, (∀ H', Nx H' → ∃ m', m' < m ∧ W (i + 1) m' H') ∧ ∀ x H', J.yld i H x H' → g x (wipe σ vs) H' fun σ2 H2 => wipe σ2 vs = wipe σ vs ∧ tt σ2 H2 fun b H3 =>
    if b = true then wi1 σ2 H3 fun J1 H4 => ∃ W1 : Nat → Nat → Hp → Prop, (∃ m, W1 0 m H4) ∧ ∀ j k H, W1 j k H →
      (J1.stop j H ∧ Nx H) ∨ (J1.go j H ∧ ∃ Nx1 : Hp → Prop, (∀ H', Nx1 H' → ∃ k', k' < k ∧ W1 (j + 1) k' H') ∧ ∀ x H', J1.yld j H x H' → g1 x (wipe σ2 vs1) H' fun σ3 H5 => wipe σ3 vs1 = wipe σ2 vs1 ∧ tt1 σ3 H5 fun b H6 =>
        if b = true then te σ3 H6 fun y H7 => ∃ (c : Int) (S : Int → Bool) (n : Nat), y = .int c ∧ H7 D = some (SetO w D S n) ∧ n + 1 < scanBound ∧ Nx1 (upd H7 D (SetO w D (fun j => S j || decide (j = c)) (if S c = true then n else n + 1))) else Nx1 H6)
    else Nx H3)
theorem sc2_core {pins : List (Addr × Obj)} {s : Shared} {σ : L2.St} {H : Hp} {Q : VK} {elt tg iter tg1 iter1 : Expr} {ifs ifs1 : List Expr} {scope : Scope} {own : List (Str × Nat)} {vs1 : List Nat} {pos pos' : Pos} {wi wi1 : TI} {g g1 : TG} {tt tt1 : TT} {te : TE} {use : Option (Value → Sem Unit)} {Qf : Value → Shared → Prop}
    (hc : X.calm = true) (hN : X.N.Nodup) (I : L2.Inv X pins σ H s) (hi : PI X tg iter wi) (ok : BlkOk X.N X.env.scope scope own) (hv : ∀ i ∈ vs1, i ∈ own.map (·.2))
    (hg : ∀ (s : Shared) (H : Hp) (C : Addr) (cl : List (Str × Addr)) (fp : List Addr), PG (X.blk s H scope (compEnvC scope cl C X.env) fp) tg g) (ht : ∀ (s : Shared) (H : Hp) (C : Addr) (cl : List (Str × Addr)) (fp : List Addr), PTs (X.blk s H scope (compEnvC scope cl C X.env) fp) ifs tt)
    (he : ∀ (s : Shared) (H : Hp) (C : Addr) (cl : List (Str × Addr)) (fp : List Addr), PE (X.blk s H scope (compEnvC scope cl C X.env) fp) elt te) (hs : ∀ x, foldedSetIterable iter X.env x = pure x)
    (hi1 : ∀ (s : Shared) (H : Hp) (C : Addr) (cl : List (Str × Addr)) (fp : List Addr), PI (X.blk s H scope (compEnvC scope cl C X.env) fp) tg1 iter1 wi1)
    (hg1 : ∀ (s : Shared) (H : Hp) (C : Addr) (cl : List (Str × Addr)) (fp : List Addr), PG (X.blk s H scope (compEnvC scope cl C X.env) fp) tg1 g1)
    (ht1 : ∀ (s : Shared) (H : Hp) (C : Addr) (cl : List (Str × Addr)) (fp : List Addr), PTs (X.blk s H scope (compEnvC scope cl C X.env) fp) ifs1 tt1)
    (hs1 : ∀ env x, foldedSetIterable iter1 env x = pure x)
    (h : tSc2 X.w wi g tt wi1 g1 tt1 te (own.map (·.2)) vs1 σ H Q)
    (hRR : ∀ D C s' m H', L2.Inv X pins σ H' s' → Q (.ref D) H' → s'.heap.Ns C m → FpOk X pins H' C → compPost (model X.prog X.w) X.A X.xe use Qf (.ref D) C (.ok .next) s') :
    wpAny (model X.prog X.w) X.A (comprehension (.SetComp elt [⟨tg, iter, ifs, 0⟩, ⟨tg1, iter1, ifs1, 0⟩] scope pos) scope X.env pos' (newSet (.type "set")) false (eval iter X.env) use) Qf X.xe s := by
  have hfree : ∀ y ∈ scope.names, y.2 = .free → ∃ c, X.env.cells.lookup y.1 = some c := fun y hy e => by
    rcases ok.free y hy e with k | k
    · exact I.ok.has _ (.inl k)
    · exact I.ok.has _ (.inr k)
  refine wpAny_comprehension_free (use := use) rfl hs (closure_ok hfree) ok.kind (fun y hy e => by rw [ok.uniq y hy, e])
    (thn (hi.run pins s σ H _ I h) fun xv s1 hx => thn hx fun itv s2 h2 => ?_)
  obtain ⟨it, fp, tn, J, H2, e, I2, T, st2, f2, q⟩ := h2
  subst e
  refine newSet_ok (newEnv_comp ?_)
  generalize hD : s2.heap.objs.size = D
  have hDn : H2 D = none := I2.hok.fresh (Nat.le_of_eq hD)
  obtain ⟨W, ⟨m0, w0⟩, turn⟩ := q D hDn
  -- the new list
  generalize hs3 : ({ s2 with heap := s2.heap.push { cls := .type "set", dict := none, data := .set #[] 0 (.fresh 0 0 (!X.w.params.followText "set-order")) } } : Shared) = s3
  have I3 : L2.Inv X pins σ (upd H2 D (SetO X.w D (fun _ => false) 0)) s3 := by
    rw [← hs3]
    refine I2.laid (t' := s2.toks) (fun b o e => Heap.get?_push_of_some _ e) (Nat.le_of_eq hD) ?_
    rw [← hD]
    exact setO_new (setR_fresh X.w)
  have h3 : s3.heap = s2.heap.push { cls := .type "set", dict := none, data := .set #[] 0 (.fresh 0 0 (!X.w.params.followText "set-order")) } := by rw [← hs3]
  have sz : ∀ b ∈ fp, b < s2.heap.objs.size := fun b hb => by
    obtain ⟨o, e, _⟩ := T.obj _ _ st2 b hb
    exact Heap.lt_size e
  have f3 : ∀ b ∈ fp, FpOk X pins (upd H2 D (SetO X.w D (fun _ => false) 0)) b ∧ b < s3.heap.objs.size := fun b hb => by
    have hlt := sz b hb
    refine ⟨⟨?_, (f2 b hb).2⟩, by rw [h3, Heap.size_push]; exact Nat.lt_succ_of_lt hlt⟩
    rw [upd_ne (by rw [← hD]; exact Nat.ne_of_lt hlt)]
    exact (f2 b hb).1
  have st3 : tn 0 s3.heap := T.keep _ _ _ st2 fun b _ o e => by rw [h3]; exact Heap.get?_push_of_some _ e
  have I4 := block_start I3 ok hN f3
  have pg := hg s3 (upd H2 D (SetO X.w D (fun _ => false) 0)) s3.heap.objs.size (cellsFrom (s3.heap.objs.size + 1) scope.names (cloFrom X.env.cells scope.names [])) fp
  have pt := ht s3 (upd H2 D (SetO X.w D (fun _ => false) 0)) s3.heap.objs.size (cellsFrom (s3.heap.objs.size + 1) scope.names (cloFrom X.env.cells scope.names [])) fp
  have pe := he s3 (upd H2 D (SetO X.w D (fun _ => false) 0)) s3.heap.objs.size (cellsFrom (s3.heap.objs.size + 1) scope.names (cloFrom X.env.cells scope.names [])) fp
  have pi1 := hi1 s3 (upd H2 D (SetO X.w D (fun _ => false) 0)) s3.heap.objs.size (cellsFrom (s3.heap.objs.size + 1) scope.names (cloFrom X.env.cells scope.names [])) fp
  have pg1 := hg1 s3 (upd H2 D (SetO X.w D (fun _ => false) 0)) s3.heap.objs.size (cellsFrom (s3.heap.objs.size + 1) scope.names (cloFrom X.env.cells scope.names [])) fp
  have pt1 := ht1 s3 (upd H2 D (SetO X.w D (fun _ => false) 0)) s3.heap.objs.size (cellsFrom (s3.heap.objs.size + 1) scope.names (cloFrom X.env.cells scope.names [])) fp
  show codeAny _ _ (.compStart (.SetComp elt [⟨tg, iter, ifs, 0⟩, ⟨tg1, iter1, ifs1, 0⟩] scope pos) 0 (.ref it) (.ref D) (compEnvC scope (cellsFrom (s3.heap.objs.size + 1) scope.names (cloFrom X.env.cells scope.names [])) s3.heap.objs.size X.env)) (compPost (model X.prog X.w) X.A X.xe use Qf (.ref D) s3.heap.objs.size) { s3 with heap := pushCells (s3.heap.push { cls := .type "dict", data := .dict #[] }) scope.names }
  have nfp : ∀ b ∈ fp, (upd H2 D (SetO X.w D (fun _ => false) 0)) b = none := fun b hb => (f3 b hb).1.1
  generalize hce : compEnvC scope (cellsFrom (s3.heap.objs.size + 1) scope.names (cloFrom X.env.cells scope.names [])) s3.heap.objs.size X.env = ce at I4 pg pt pe pi1 pg1 pt1 ⊢
  have cL : ce.locals = s3.heap.objs.size := by subst hce; rfl
  generalize hH3 : upd H2 D (SetO X.w D (fun _ => false) 0) = H3 at I3 I4 pg pt pe pi1 pg1 pt1 w0 nfp f3
  generalize hs4 : ({ s3 with heap := pushCells (s3.heap.push { cls := .type "dict", data := .dict #[] }) scope.names } : Shared) = s4 at I4 ⊢
  have st4 : tn 0 s4.heap := T.keep _ _ _ st3 fun b _ o e => by rw [← hs4]; exact pushCells_keeps _ _ _ _ (Heap.get?_push_of_some _ e)
  have stat : ∀ {σ' : L2.St} {H' : Hp} {s' : Shared}, L2.Inv (X.blk s3 H3 scope ce fp) [] σ' H' s' → (∀ b ∈ fp, H' b = none) → ∀ b ∈ fp, FpOk (X.blk s3 H3 scope ce fp) [] H' b := fun {σ' H' s'} I' hn b hb =>
    ⟨hn b hb, (I'.ok.exf b hb).1, I'.ok.exfs b hb, .inl hb, fun x c e => (I'.ok.exf b hb).2 x c e, fun p hp => absurd (show p ∈ ([] : List (Addr × Obj)) ++ [] from hp) (by simp)⟩
  have loop : codeAny (model X.prog X.w) X.A (.compLoop (.SetComp elt [⟨tg, iter, ifs, 0⟩, ⟨tg1, iter1, ifs1, 0⟩] scope pos) 0 (.ref it) (.ref D) ce) (compPost (model X.prog X.w) X.A X.xe use Qf (.ref D) s3.heap.objs.size) s4 := by
    refine compLoop2_outS (hs1 ce) (fun n s' => ∃ i H', L2.Inv (X.blk s3 H3 scope ce fp) [] (wipe σ (own.map (·.2))) H' s' ∧ tn i s'.heap ∧ (∀ b ∈ fp, H' b = none) ∧ W i n H') ?_ m0 ⟨0, H3, I4, st4, nfp, w0⟩
    rintro n s5 ⟨i, H5, I5, st5, n5, w5⟩
    rcases turn i n H5 w5 with ⟨stop, qq⟩ | ⟨go, Nx, hNx, step⟩
    · have td := T.done (X.blk s3 H3 scope ce fp) rfl rfl rfl hc i [] s5 _ H5 (fun _ _ => False) I5 (stat I5 n5) st5 stop
      refine thnF td fun r s6 ⟨hr, I6⟩ => ?_
      subst hr
      -- back in the def's context
      have I7 : L2.Inv X pins σ H5 s6 := I3.call' (ch := fp) I6.os I6.base I6.hok I6.bare fun b hb => ⟨(f3 b hb).1.2.2.2.1, (f3 b hb).1.2.1, (f3 b hb).1.2.2.2.2.1, (f3 b hb).1.2.2.2.2.2⟩
      have nC : H5 s3.heap.objs.size = none := by
        have z : H5 ce.locals = none := I6.free
        rw [cL] at z
        exact z
      obtain ⟨m, hn, _⟩ := I6.loc
      have hn : s6.heap.Ns ce.locals m := hn
      rw [cL] at hn
      exact hRR D s3.heap.objs.size s6 m H5 I7 qq hn (I3.fpOk (Nat.le_refl _) nC)
    · have ti := T.item (X.blk s3 H3 scope ce fp) rfl rfl rfl hc i [] s5 _ H5 (fun _ _ => False) I5 (stat I5 n5) st5 go
      refine thnF ti fun r s6 ⟨u, hr, h6⟩ => ?_
      subst hr
      refine thnF h6 fun _ s7 ⟨x, H7, I7, r7, y7, st7, n7⟩ => ?_
      have I7' := I7.pinned (stat I7 n7) (T.obj _ _ st7)
      refine thnF (pg.run _ s7 _ H7 x u _ I7' r7 (step x H7 y7)) fun _ s8 ⟨σ8, H8, I8, hw8, q8⟩ => ?_
      refine thnF (pt.run _ s8 σ8 H8 _ I8 q8) fun b s9 ⟨H9, I9, q9⟩ => ?_
      -- the turn's end, from any slots that know what the block knew at its start
      have fin : ∀ {σ9 : L2.St} {s' : Shared} {H' : Hp}, L2.Inv (X.blk s3 H3 scope ce fp) ([] ++ pinsAt fp s7.heap) σ9 H' s' → (wipe σ (own.map (·.2))).length = σ9.length → (∀ (j : Nat) v, (wipe σ (own.map (·.2)))[j]? = some (some v) → σ9[j]? = some (some v)) → Nx H' →
          ∃ m, m < n ∧ ∃ i H', L2.Inv (X.blk s3 H3 scope ce fp) [] (wipe σ (own.map (·.2))) H' s' ∧ tn i s'.heap ∧ (∀ b ∈ fp, H' b = none) ∧ W i m H' := fun {σ9 s' H'} I' hl hk nx => by
        obtain ⟨m', hm, w'⟩ := hNx H' nx
        have pin' : ∀ b ∈ fp, ∀ o, s7.heap.get? b = some o → s'.heap.get? b = some o ∧ H' b = none := fun b hb o e =>
          let z := I'.pin (b, o) (List.mem_append_right _ (List.mem_append_right _ (mem_pinsAt hb e)))
          ⟨z.1, z.2.1⟩
        refine ⟨m', hm, i + 1, H', (I'.unpinned (pins := [])).weak hl hk, T.keep _ _ _ st7 fun b hb o e => (pin' b hb o e).1, fun b hb => ?_, w'⟩
        obtain ⟨o, e, _⟩ := T.obj _ _ st7 b hb
        exact (pin' b hb o e).2
      have hl8 : (wipe σ (own.map (·.2))).length = σ8.length := by rw [← hw8, wipe_length]
      have hk8 : ∀ (j : Nat) v, (wipe σ (own.map (·.2)))[j]? = some (some v) → σ8[j]? = some (some v) := fun j v e => by
        rw [← hw8] at e
        exact (wipe_some e).1
      have hk9 : ∀ (j : Nat) v, (wipe σ (own.map (·.2)))[j]? = some (some v) → (wipe σ8 vs1)[j]? = some (some v) := fun j v e => by
        rw [← hw8] at e
        obtain ⟨e1, e2⟩ := wipe_some e
        rw [wipe_out fun z => e2 (hv j z)]
        exact e1
      cases b with
      | false =>
        simp only [Bool.false_eq_true, if_false] at q9 ⊢
        exact fin I9 hl8 hk8 q9
      | true =>
        simp only [if_true] at q9 ⊢
        refine thnF (pi1.run _ s9 σ8 H9 _ I9 q9) fun xv s10 hx => thnF hx fun itv s11 h11 => ?_
        obtain ⟨it1, fp1, tn1, J1, H11, e1, I11, T1, st11, f11, W1, ⟨m1, w1⟩, turn1⟩ := h11
        subst e1
        -- the inner loop
        have stat1 : ∀ {H' : Hp}, (∀ b ∈ fp1, H' b = none) → ∀ b ∈ fp1, FpOk (X.blk s3 H3 scope ce fp) ([] ++ pinsAt fp s7.heap) H' b := fun hn b hb => ⟨hn b hb, (f11 b hb).2⟩
        have loop1 : codeAny (model X.prog X.w) X.A (.compLoop (.SetComp elt [⟨tg, iter, ifs, 0⟩, ⟨tg1, iter1, ifs1, 0⟩] scope pos) 1 (.ref it1) (.ref D) ce)
            (fun r s' => match r with
              | .ok _ => ∃ m, m < n ∧ ∃ i H', L2.Inv (X.blk s3 H3 scope ce fp) [] (wipe σ (own.map (·.2))) H' s' ∧ tn i s'.heap ∧ (∀ b ∈ fp, H' b = none) ∧ W i m H'
              | .error _ => False) s11 := by
          refine compLoop2_inS (fun k s' => ∃ j H', L2.Inv (X.blk s3 H3 scope ce fp) ([] ++ pinsAt fp s7.heap) (wipe σ8 vs1) H' s' ∧ tn1 j s'.heap ∧ (∀ b ∈ fp1, H' b = none) ∧ W1 j k H') ?_ m1 ⟨0, H11, I11.weak (wipe_length _ _) (fun j v e => (wipe_some e).1), st11, fun b hb => (f11 b hb).1, w1⟩
          rintro k s12 ⟨j, H12, I12, st12, n12, w12⟩
          rcases turn1 j k H12 w12 with ⟨stop1, nx1⟩ | ⟨go1, Nx1, hNx1, step1⟩
          · refine thnF (T1.done (X.blk s3 H3 scope ce fp) rfl rfl rfl hc j _ s12 (wipe σ8 vs1) H12 (fun _ _ => False) I12 (stat1 n12) st12 stop1) fun r s13 ⟨hr, I13⟩ => ?_
            subst hr
            exact fin I13 (hl8.trans (wipe_length σ8 vs1).symm) hk9 nx1
          · refine thnF (T1.item (X.blk s3 H3 scope ce fp) rfl rfl rfl hc j _ s12 (wipe σ8 vs1) H12 (fun _ _ => False) I12 (stat1 n12) st12 go1) fun r s13 ⟨u1, hr, h13⟩ => ?_
            subst hr
            refine thnF h13 fun _ s14 ⟨x1, H14, I14, r14, y14, st14, n14⟩ => ?_
            have I14' := I14.pinned (stat1 n14) (T1.obj _ _ st14)
            refine thnF (pg1.run _ s14 (wipe σ8 vs1) H14 x1 u1 _ I14' r14 (step1 x1 H14 y14)) fun _ s15 ⟨σ15, H15, I15, hw15, q15⟩ => ?_
            refine thnF (pt1.run _ s15 σ15 H15 _ I15 q15) fun b1 s16 ⟨H16, I16, q16⟩ => ?_
            have fin1 : ∀ {s' : Shared} {H' : Hp}, L2.Inv (X.blk s3 H3 scope ce fp) (([] ++ pinsAt fp s7.heap) ++ pinsAt fp1 s14.heap) σ15 H' s' → Nx1 H' → ∃ m, m < k ∧ ∃ j H', L2.Inv (X.blk s3 H3 scope ce fp) ([] ++ pinsAt fp s7.heap) (wipe σ8 vs1) H' s' ∧ tn1 j s'.heap ∧ (∀ b ∈ fp1, H' b = none) ∧ W1 j m H' := fun {s' H'} I' nx => by
              obtain ⟨m', hm, w'⟩ := hNx1 H' nx
              have pin' : ∀ b ∈ fp1, ∀ o, s14.heap.get? b = some o → s'.heap.get? b = some o ∧ H' b = none := fun b hb o e =>
                let z := I'.pin (b, o) (List.mem_append_right _ (List.mem_append_right _ (mem_pinsAt hb e)))
                ⟨z.1, z.2.1⟩
              refine ⟨m', hm, j + 1, H', I'.unpinned.weak (by rw [← hw15, wipe_length]) (fun j v e => by rw [← hw15] at e; exact (wipe_some e).1), T1.keep _ _ _ st14 fun b hb o e => (pin' b hb o e).1, fun b hb => ?_, w'⟩
              obtain ⟨o, e, _⟩ := T1.obj _ _ st14 b hb
              exact (pin' b hb o e).2
            cases b1 with
            | false =>
              simp only [Bool.false_eq_true, if_false] at q16 ⊢
              exact fin1 I16 q16
            | true =>
              simp only [if_true] at q16 ⊢
              refine thnF (pe.run _ s16 σ15 H16 _ I16 q16) fun z s17 ⟨yv, H17, I17, r17, cb, S0, n0, ey, hD17, hz17, nx⟩ => ?_
              subst ey
              obtain ⟨tk17, rfl⟩ := r17
              exact addI_ok (X := X.blk s3 H3 scope ce fp) I17 hD17 hz17 fun s18 I18 => fin1 I18 nx
        exact compStart1_okS loop1 (T1.self X.A 0 _ _ _ st11 loop1)
  exact codeAny_compStart_set loop (T.self X.A 0 _ _ _ st4 loop)
/-- as a value -/
theorem pe_sc2 {elt tg iter tg1 iter1 : Expr} {ifs ifs1 : List Expr} {scope : Scope} {own : List (Str × Nat)} {vs1 : List Nat} {pos : Pos} {wi wi1 : TI} {g g1 : TG} {tt tt1 : TT} {te : TE} (hc : X.calm = true) (hN : X.N.Nodup) (hi : PI X tg iter wi) (ok : BlkOk X.N X.env.scope scope own) (hv : ∀ i ∈ vs1, i ∈ own.map (·.2))
    (hg : ∀ (s : Shared) (H : Hp) (C : Addr) (cl : List (Str × Addr)) (fp : List Addr), PG (X.blk s H scope (compEnvC scope cl C X.env) fp) tg g) (ht : ∀ (s : Shared) (H : Hp) (C : Addr) (cl : List (Str × Addr)) (fp : List Addr), PTs (X.blk s H scope (compEnvC scope cl C X.env) fp) ifs tt)
    (hi1 : ∀ (s : Shared) (H : Hp) (C : Addr) (cl : List (Str × Addr)) (fp : List Addr), PI (X.blk s H scope (compEnvC scope cl C X.env) fp) tg1 iter1 wi1)
    (hg1 : ∀ (s : Shared) (H : Hp) (C : Addr) (cl : List (Str × Addr)) (fp : List Addr), PG (X.blk s H scope (compEnvC scope cl C X.env) fp) tg1 g1) (ht1 : ∀ (s : Shared) (H : Hp) (C : Addr) (cl : List (Str × Addr)) (fp : List Addr), PTs (X.blk s H scope (compEnvC scope cl C X.env) fp) ifs1 tt1)
    (he : ∀ (s : Shared) (H : Hp) (C : Addr) (cl : List (Str × Addr)) (fp : List Addr), PE (X.blk s H scope (compEnvC scope cl C X.env) fp) elt te) (hs : ∀ x, foldedSetIterable iter X.env x = pure x := by intro _; rfl) (hs1 : ∀ env x, foldedSetIterable iter1 env x = pure x := by intro _ _; rfl) :
    PE X (.SetComp elt [⟨tg, iter, ifs, 0⟩, ⟨tg1, iter1, ifs1, 0⟩] scope pos) (tSc2 X.w wi g tt wi1 g1 tt1 te (own.map (·.2)) vs1) := by
  refine ⟨fun pins s σ H Q I h => ?_⟩
  rw [eval_SetComp]
  refine sc2_core hc hN I hi ok hv hg ht he hs hi1 hg1 ht1 hs1 h fun D C s' m H' I' q hn f => ⟨m, hn, fun h'' sb => ?_⟩
  obtain ⟨f0, f1, f2, f3, f4, f5⟩ := f
  exact ⟨.ref D, H', I'.turned (t' := s'.toks) (fun b o hb e => (sb.2 b hb).trans e) f0 f1 f3 f4 f5, rfl, q⟩
end
end Jr
set_option Elab.async false
set_option linter.all false
set_option maxRecDepth 100000
set_option maxHeartbeats 4000000
/-! set(a list of ints), sorted(a set), {one int}, the union of {one int} and a set. -/
namespace Jr
open PySem PySem.Spec PyProof.Rows L2 PpSet
section
variable {P : Program} {w : World} {A : Around} {E : Value → Shared → Prop} {s : Shared}
theorem call_set_lstI {l : Addr} {items : Array Value} (ns : List Int) {Q : Value → Shared → Prop} (hh : A.handled = none) (hl : s.heap.IsList l items) (hit : IntsAre items.toList ns) (hb : ns.length + 1 < scanBound)
    (h : ∀ (h' : Heap) (tk c : Nat), SetR w h' s.heap.objs.size (fun j => decide (j ∈ ns)) c → c ≤ ns.length → (∀ b o, s.heap.get? b = some o → h'.get? b = some o) → Q (.ref s.heap.objs.size) { s with heap := h', toks := tk }) :
    wpAny (model P w) A (call (.type "set") [.ref l]) Q E s := by
  have hisz : items.size = ns.length := by
    have q := IntsAre.length hit
    rw [Array.length_toList] at q
    exact q
  obtain ⟨c, tl, hmro⟩ := F.called_set.mro
  have hmade := F.called_set.made
  have hsub := F.called_set.sub
  refine wpAny_call (codeAny_of_tree ?_)
  show wpAny _ _ (callAny (.type "set") _) _ _ _
  refine wpAny_pure ⟨Code.quiet_builtin _ (by decide +kernel), codeAny_builtin F.entry_type_call ?_⟩
  rw [Around.under_plain (weight_type_call_type "set" [.ref l] []) rfl]
  have h1 := F.called_set.notType
  have h2 := F.called_set.canCreate
  have hct := F.typeCall_set_1 (.ref l)
  repeat (any_goals (first | assumption | wp_step))

  refine codeAny_mono (code_set_led1 (.ref l) (E := E) (Q₁ := fun obj s₁ => obj = .ref s.heap.objs.size ∧ s₁ = { s with heap := s.heap.push { cls := .type "set", dict := none, data := .set #[] 0 (.fresh 0 0 (!w.params.followText "set-order")) } }) ⟨rfl, rfl⟩) fun r s₁ hr => ?_
  cases r with
  | error e => exact hr
  | ok fl =>
    cases fl with
    | ret obj =>
      obtain ⟨rfl, rfl⟩ := hr
      have hS : (s.heap.push { cls := .type "set", dict := none, data := .set #[] 0 (.fresh 0 0 (!w.params.followText "set-order")) }).get? s.heap.objs.size = some { cls := .type "set", dict := none, data := .set #[] 0 (.fresh 0 0 (!w.params.followText "set-order")) } := Heap.get?_push_size _ rfl
      have hT : Shared.TypeIs { s with heap := s.heap.push { cls := .type "set", dict := none, data := .set #[] 0 (.fresh 0 0 (!w.params.followText "set-order")) } } (.ref s.heap.objs.size) "set" := ⟨_, hS, rfl⟩
      have hli := F.called_set.init.lookup
      have hbi := F.called_set.init.bind (.ref s.heap.objs.size)
      repeat (any_goals (first | assumption | wp_step))

      refine codeAny_mono (codeAny_call_builtin (R := wants (fun r s₂ => r = .none ∧ ∃ h' tk c, s₂ = { s with heap := h', toks := tk } ∧ SetR w h' s.heap.objs.size (fun j => decide (j ∈ ns)) c ∧ c ≤ ns.length ∧
          (∀ b o, s.heap.get? b = some o → h'.get? b = some o)) E) F.called_set.init.plain F.entry_set_init (check_set_init_1 hT ?_)) fun r₂ s₂ hr₂ => ?_
      · obtain ⟨ol, hol, hcl, nl, hdl⟩ := hl
        obtain ⟨ocls, odict, odata, oslots⟩ := ol
        simp only at hcl hdl
        subst hcl; subst hdl
        have hol' : (s.heap.push { cls := .type "set", dict := none, data := .set #[] 0 (.fresh 0 0 (!w.params.followText "set-order")) }).get? l = some { cls := .type "list", dict := odict, data := .seq items nl, slots := oslots } := Heap.get?_push_of_some _ hol
        have hsls := F.sub_list_set
        have hslf := F.sub_list_frozenset
        have hne : (Value.type "list" == Value.type "dict") = false := by decide
        have hl1 : (s.heap.push { cls := .type "set", dict := none, data := .set #[] 0 (.fresh 0 0 (!w.params.followText "set-order")) }).IsList l items := ⟨_, hol', rfl, nl, rfl⟩
        unfold Builtin.«set.__init__» noKeywords Builtin.Frozenset.updateFrom
        generalize hPI : pyIter = PI
        wp_walk
        subst hPI

        refine wpAny_pyIter_list hl1 ?_
        refine wpAny_bind (wpAny_runValue ?_)
        have hlS : l < s.heap.objs.size := Heap.lt_size hol
        have hh3 : A.in1.in1.in1.handled = none := by simp [hh]
        have hz1 : (s.heap.push { cls := .type "set", dict := none, data := .set #[] 0 (.fresh 0 0 (!w.params.followText "set-order")) }).objs.size = s.heap.objs.size + 1 := Heap.size_push ..
        have hneI : l ≠ (s.heap.push { cls := .type "set", dict := none, data := .set #[] 0 (.fresh 0 0 (!w.params.followText "set-order")) }).objs.size := by
          rw [Heap.size_push]; exact Nat.ne_of_lt (Nat.lt_succ_of_lt hlS)
        have hSf : s.heap.objs.size ∉ [(s.heap.push { cls := .type "set", dict := none, data := .set #[] 0 (.fresh 0 0 (!w.params.followText "set-order")) }).objs.size, l] := by
          rw [Heap.size_push]; simp only [List.mem_cons, List.mem_singleton, List.not_mem_nil, or_false, not_or]
          exact ⟨Nat.ne_of_lt (Nat.lt_succ_self _), Nat.ne_of_gt hlS⟩
        have hval : ∀ (i : Nat) (v : Value), items[i]? = some v → ∃ k t, ns[i]? = some k ∧ v = .int k t := fun i v hv => by
          have hi : i < ns.length := by rw [← hisz]; exact (Array.getElem?_eq_some_iff.mp hv).1
          obtain ⟨t, e⟩ := PyProof.Rows.IntsAre.int_at hit i v (by rw [Array.getElem?_toList]; exact hv)
          refine ⟨ns[i], t, List.getElem?_eq_getElem hi, ?_⟩
          rw [e, List.getD_eq_getElem?_getD, List.getElem?_eq_getElem hi] <;> rfl
        refine set_update_ints ((Walks.list hh3 _ l hneI items).toS) s.heap.objs.size
          hSf ns hisz hb hval (items.size - 0) 0 _ (by omega) (Nat.zero_le _)
          ⟨⟨_, Heap.get?_push_size _ rfl, rfl, rfl⟩, (hl1.push _)⟩ ?hS0 ?hR
        case hS0 =>
          have hget : ((s.heap.push { cls := .type "set", dict := none, data := .set #[] 0 (.fresh 0 0 (!w.params.followText "set-order")) }).push { cls := .type "list_iterator", data := .fields #[.ref l, .int 0 0] }).get? s.heap.objs.size
              = some { cls := .type "set", dict := none, data := .set #[] 0 (.fresh 0 0 (!w.params.followText "set-order")) } := Heap.get?_push_of_some _ hS
          exact ⟨0, Nat.le_refl 0, setR_new_at hget⟩
        case hR =>
          intro s' c' hm hc' hS'
          obtain ⟨h', g2, d', tk', os'⟩ := s'
          have eg : g2 = s.gens := hm.gens
          have ed : d' = s.drawn := hm.drawn
          have eo : os' = s.os := hm.os
          subst eg; subst ed; subst eo
          show wpAny _ _ _ _ _ _
          refine wpAny_pure ?_
          show wpAny _ _ (ret Value.none) _ _ _
          rw [hisz] at hc'
          refine wpAny_pure ⟨rfl, h', tk', c', rfl, hS', hc', fun b o e => ?_⟩
          have hb0 : b < s.heap.objs.size := Heap.lt_size e
          have hb1 : b ≠ s.heap.objs.size := Nat.ne_of_lt hb0
          have hb2 : b ≠ (s.heap.push { cls := .type "set", dict := none, data := .set #[] 0 (.fresh 0 0 (!w.params.followText "set-order")) }).objs.size := by
            rw [Heap.size_push]; exact Nat.ne_of_lt (Nat.lt_succ_of_lt hb0)
          exact hm.heap b o (by simp only [List.mem_cons, List.mem_singleton, List.not_mem_nil, or_false, not_or]; exact ⟨hb1, hb2⟩) (Heap.get?_push_of_some _ (Heap.get?_push_of_some _ e))

      · cases r₂ with
        | error e => exact hr₂
        | ok fl₂ =>
          cases fl₂ with
          | ret r =>
            obtain ⟨rfl, h', tk, c', rfl, hS', hc', hk'⟩ := hr₂
            repeat (any_goals (first | assumption | wp_step))
            exact h _ _ _ hS' hc' hk'
          | _ => exact hr₂.elim
    | _ => exact hr.elim

end
/-! ### set(x) of a tuple or a list of ints -/
structure aSetI (w : World) (K : PySem.W.Frag) (xs : List V) (H : Hp) (Q : VK) : Prop where
  ex : ∃ (p : Addr) (ns : List Int), xs = [.ref p] ∧ (SqT K H p (ns.map V.int) ∨ SqL K H p (ns.map V.int)) ∧ ns.length ≤ 1000 ∧ ∀ q n, H q = none → n ≤ ns.length → Q (.ref q) (upd H q (SetO w q (fun j => decide (j ∈ ns)) n))
theorem cr_setI {X : Cx} (hc : X.calm = true) : CallR X (.type "set") (aSetI X.w X.K) := by
  intro pins s σ H vs us Q I r h
  obtain ⟨p0, ns, e1, hq, hl, q⟩ := h.ex
  subst e1
  have hd := I.ok.hd hc
  rw [Vals.ref1 r]
  have fin : ∀ (h' : Heap) (tk c : Nat), SetR X.w h' s.heap.objs.size (fun j => decide (j ∈ ns)) c → c ≤ ns.length → (∀ b o, s.heap.get? b = some o → h'.get? b = some o) → EP X pins σ Q (.ref s.heap.objs.size) { s with heap := h', toks := tk } := by
    intro h' tk c R1 hcn k
    exact ⟨.ref _, upd H s.heap.objs.size (SetO X.w s.heap.objs.size (fun j => decide (j ∈ ns)) c), I.laid (t' := tk) k (Nat.le_refl _) (setO_new R1), rfl, q _ c (I.hok.fresh (Nat.le_refl _)) hcn⟩
  rcases hq with hq | hq
  · obtain ⟨its, rv, pt, hz⟩ := I.tuple hq
    have hi : IntsAre its.toArray.toList ns := ints_of_vals rv
    exact call_set_tupI ns hd (show s.heap.IsTuple p0 its.toArray from pt) hi (by unfold scanBound; omega) fin
  · obtain ⟨its, rv, pt, hz⟩ := I.list hq
    have hi : IntsAre its.toArray.toList ns := ints_of_vals rv
    exact call_set_lstI ns hd pt.isList hi (by unfold scanBound; omega) fin
/-! ### {one int} -/
theorem okC {P : Program} {w : World} {K : PySem.W.Frag} {mg : Str → Option Value} {base : Heap} {x qual : Str} {params : Arguments} {body : List Stmt} {scope : Scope} {dvs : List V} {kws : List (Str × V)} {f : Addr} {fd : FuncData} {CX : CXT} {N ps : List Str} {k : Nat} {sp : Sp}
    (F : FunD K x qual params body scope dvs kws f fd) (S : FnScope N ps scope) (len : ∀ vs H Q E, sp vs H Q E → vs.length = ps.length)
    (hbody : ∀ (cdv : Value) (A : Around) (outer : List Env) (s : Shared) (H : Hp) (vs : List V) (Q : VK) (E : XK), PySem.W.kdsCode K cdv = true → Room k (A.deeper (envOfC qual scope s.heap.objs.size f cdv)) → sp vs H Q E →
      ∃ t, PSs (cxOf CX P w K mg base N qual scope f cdv A outer s H E) body t ∧ t { nx := fun _ H' => Q .non H', rt := Q } (start N vs) H) : FnOk P w K mg base CX (k + 1) f fd ps sp := by
  obtain ⟨oc, od, dV, kV, doc, pm, an, cdv, ct, osl, rfl, lk, hcd, _, _⟩ := F.ex
  exact fn_of lk hcd S len fun A outer s H vs Q E hr hsp => hbody cdv A outer s H vs Q E (kdsCode_of hcd) hr hsp
def tSet1 (w : World) (te : TE) : TE := fun σ H Q => ∀ D, H D = none → te σ (upd H D (SetO w D (fun _ => false) 0)) fun x H1 => ∃ k : Int, x = .int k ∧ H1 D = some (SetO w D (fun _ => false) 0) ∧ Q (.ref D) (upd H1 D (SetO w D (fun j => false || decide (j = k)) 1))
theorem pe_set1 {X : Cx} {e : Expr} {te : TE} {pos : Pos} (he : PE X e te) (hcd : PySem.W.kdsCode X.K X.env.code = true) (hs : starEach [e] X.env = [(false, eval e X.env)] := by rfl) : PE X (.Set [e] 0 pos) (tSet1 X.w te) := by
  refine ⟨fun pins s σ H Q I h => ?_⟩
  rw [arm_eval_Set]
  refine wpAny_bind (wpAny_standAt ?_)
  refine wpAny_bind (PySem.W.kds_main I.kIn hcd fun b => ?_)
  rw [hs]
  show wpAny _ _ (setDisplay .oneByOne b [(false, do let v ← eval e X.env; standAt pos; pure v)]) _ _ s
  unfold setDisplay
  try dsimp only
  rw [if_neg (by decide)]
  refine wpAny_bind (newSet_ok ?_)
  have hn : H s.heap.objs.size = none := I.hok.fresh (Nat.le_refl _)
  have hw := h _ hn
  have I1 : L2.Inv X pins σ (upd H s.heap.objs.size (SetO X.w s.heap.objs.size (fun _ => false) 0)) { s with heap := s.heap.push { cls := .type "set", dict := none, data := .set #[] 0 (.fresh 0 0 (!X.w.params.followText "set-order")) } } :=
    I.laid (t' := s.toks) (fun b o q => Heap.get?_push_of_some _ q) (Nat.le_refl _) (setO_new (setR_fresh X.w))
  dsimp only
  have e1 : (if [(false, (do let v ← eval e X.env; standAt pos; pure v : Sem Value))].length > 30 then 0 else (([(false, (do let v ← eval e X.env; standAt pos; pure v : Sem Value))].findIdx? (·.1)).getD 1)) = 1 := by rfl
  refine wpAny_bind (wpAny_holding ?_)
  show wpAny _ _ (evalAll [(do let v ← eval e X.env; standAt pos; pure v : Sem Value)] >>= _) _ _ _
  refine wpAny_bind ?_
  show wpAny _ _ ((eval e X.env >>= fun v => standAt pos >>= fun _ => pure v) >>= fun v => holding [v] (evalAll []) >>= fun r => pure (v :: r)) _ _ _
  refine wpAny_bind (wpAny_bind (thn (he.run pins _ σ _ _ I1 hw) fun v s2 ⟨x, H2, I2, r2, k, ex, h2, q2⟩ => ?_))
  subst ex
  obtain ⟨tk, rfl⟩ := r2
  refine wpAny_bind (wpAny_standAt (wpAny_pure (wpAny_bind (wpAny_holding (wpAny_pure (wpAny_pure ?_))))))
  refine wpAny_bind (wpAny_holding ?_)
  have R := setO_get I2 h2
  refine wpAny_bind ?_
  rw [List.forIn_cons]
  unfold setAdd
  refine wpAny_bind (wpAny_bind (wpAny_holding (wpAny_bind ((intKind X.prog X.w).pyHash (intKind_is X.prog X.w k tk) ?_))))
  refine setR_add_hashed (s := { s2 with toks := s2.toks + 1 }) R (by decide) fun h' sb new => ?_
  refine wpAny_pure ?_
  dsimp only
  rw [List.forIn_nil]
  refine wpAny_pure ?_
  generalize hdr : List.drop _ _ = L
  have hL : L = [] := by rw [← hdr]; rfl
  subst hL
  rw [List.forIn_nil]
  refine wpAny_pure (wpAny_pure ?_)
  have he' : ∃ u, h'.get? s.heap.objs.size = some u := by
    have ⟨o, _, _, _, ho, _⟩ := new
    exact ⟨o, ho⟩
  exact wpAny_pure ⟨.ref _, _, I2.write (e := s.heap.objs.size) (t' := s2.toks + 1) (by rw [h2]; trivial) (.inl rfl) (fun b u hb hu => (sb.2 b hb).trans hu) he' (setO_new new), rfl, q2⟩
/-! ### the union -/
def lay1 (mask k : Nat) : Bool := match SetTable.layClean mask #[hashInt k] with
  | none => false
  | some owner => decide (((List.range (mask + 1)).filterMap fun j => (owner.getD j none).map (j, ·)) = [(k % (mask + 1), 0)])
theorem lay1_ok : ∀ m ∈ [7, 15, 31], ∀ k < 12, lay1 m k = true := by decide +kernel
theorem room_mask : ∀ m < 13, SetTable.sizeAbove ((1 + m) * 2) - 1 ∈ [7, 15, 31] ∧ SetTable.sizeAbove ((1 + m) * 2) ≤ 32 := by decide +kernel
theorem laid1 {mask k f mv : Nat} {led pl : Bool} (hm : mask ∈ [7, 15, 31]) (hk : k < 12) : SetTable.laid mask f mv led pl #[hashInt k] = some ({ mask, place := #[k % (mask + 1)], dummies := #[], finger := f, led, moves := mv, plain := pl }, #[0]) := by
  have h := lay1_ok mask hm k hk
  unfold lay1 at h
  unfold SetTable.laid
  cases e : SetTable.layClean mask #[hashInt k] with
  | none => rw [e] at h; cases h
  | some owner =>
    rw [e] at h
    have h' := of_decide_eq_true h
    show some _ = some _
    simp only [h']
    rfl
/-- a set of the one int k, its table small -/
def One7 (w : World) (h : Heap) (a : Addr) (k : Nat) : Prop := ∃ o ep t tk, h.get? a = some o ∧ o.ExactSet ∧ o.data = .set #[(hashInt k, .int (k : Int) tk)] ep t ∧ t.fits 1 = true ∧ t.mask = 7 ∧ Ris t.place.toList ∧ (w.params.followText "set-order" = true ∨ t.led = true)
section
variable {P : Program} {w : World} {A : Around} {E : Value → Shared → Prop} {s : Shared}
theorem one_setR {h : Heap} {a : Addr} {k : Nat} {o : Obj} {ep : Nat} {t : SetTable} {tk : Tok} (ho : h.get? a = some o) (hex : o.ExactSet) (hd : o.data = .set #[(hashInt k, .int (k : Int) tk)] ep t) (hf : t.fits 1 = true) (hr : Ris t.place.toList) (hl : w.params.followText "set-order" = true ∨ t.led = true) :
    SetR w h a (fun j => decide (j = (k : Int))) 1 :=
  ⟨o, _, ep, t, ho, hex, hd, (fun e he => by simp at he; subst he; exact ⟨_, tk, rfl, rfl⟩), (by simp), (fun j => by simp [keyOf]), (show 1 < scanBound by decide), hf, rfl, hr, hl⟩
theorem One7.setR {h : Heap} {a : Addr} {k : Nat} (x : One7 w h a k) : SetR w h a (fun j => decide (j = (k : Int))) 1 := by
  obtain ⟨o, ep, t, tk, ho, hex, hd, hf, _, hr, hl⟩ := x
  exact one_setR ho hex hd hf hr hl
theorem setR_one {h : Heap} {a : Addr} {k : Nat} {S : Int → Bool} (R : SetR w h a S 1) (hS : ∀ j, S j = decide (j = (k : Int))) : ∃ o ep t tk, h.get? a = some o ∧ o.ExactSet ∧ o.data = .set #[(hashInt k, .int (k : Int) tk)] ep t ∧ t.fits 1 = true ∧ Ris t.place.toList ∧ (w.params.followText "set-order" = true ∨ t.led = true) := by
  obtain ⟨o, es, ep, t, ho, hex, hd, g, nd, hm, hb, hf, hn, hr, hl⟩ := R
  obtain ⟨e0, he⟩ : ∃ e0, es = #[e0] := by
    rcases es with ⟨l⟩
    match l, hn with
    | [x], _ => exact ⟨x, rfl⟩
  subst he
  obtain ⟨kk, tk, e1, e2⟩ := g e0 (by simp)
  have hk : kk = (k : Int) := by
    have h1 := (hm kk).mpr (by simp [keyOf, e1])
    rw [hS] at h1
    exact of_decide_eq_true h1
  subst hk
  obtain ⟨h0, x0⟩ := e0
  simp only at e1 e2
  subst e1; subst e2
  exact ⟨o, ep, t, tk, ho, hex, hd, hf, hr, hl⟩
theorem merge_one {r a : Addr} {k : Nat} {each : Sem Unit} {Q : Unit → Shared → Prop} {S : Int → Bool} (hk : k < 12) (hne : r ≠ a) (hr0 : s.heap.get? r = some { cls := .type "set", dict := none, data := .set #[] 0 (.fresh 0 0 (!w.params.followText "set-order")) }) (R : SetR w s.heap a S 1) (hS : ∀ j, S j = decide (j = (k : Int)))
    (h : ∀ h', One7 w h' r k → Heap.SameBut r s.heap h' → Q () { s with heap := h' }) : wpAny (model P w) A (setMerge r a each) Q E s := by
  obtain ⟨o, ep, t, tk, ho, hex, hd, hf, hr, hl⟩ := setR_one R hS
  have hfr : (SetTable.fresh 0 0 (!w.params.followText "set-order")).fits (#[] : Array (Int × Value)).size = true := by rfl
  have hled : w.params.followText "set-order" = true ∨ ((!w.params.followText "set-order") && t.led) = true := by
    rcases hl with hl | hl
    · exact .inl hl
    · cases hw : w.params.followText "set-order"
      · right; rw [hl]; rfl
      · exact .inl rfl
  unfold setMerge
  rw [if_neg (by simpa using hne)]
  refine wpAny_bind (wpAny_setState_of ho hd hf ?_)
  dsimp only
  refine wp_if_neg (show ¬ (false = true) by decide) ?_
  refine wpAny_bind ?_
  unfold setRoomFor
  refine wpAny_bind (wpAny_setState_of hr0 rfl hfr ?_)
  have e0 : (SetTable.fresh 0 0 (!w.params.followText "set-order")).roomFor 1 = none := by rfl
  show wpAny _ _ (match (SetTable.fresh 0 0 (!w.params.followText "set-order")).roomFor 1 with | some wanted => setRelay r wanted | none => pure ()) _ _ _
  rw [e0]
  refine wpAny_pure ?_
  refine wpAny_bind (wpAny_setState_of hr0 rfl hfr ?_)
  dsimp only
  have sb : ∀ es' t', Heap.SameBut r s.heap (s.heap.update r (Obj.putSet es' t')) := fun es' t' => Heap.SameBut.update s.heap r _
  have er : (SetTable.fresh 0 0 (!w.params.followText "set-order")).road t = if (7 == t.mask && t.dummies.isEmpty) = true then .slotForSlot else .clean := by
    unfold SetTable.road
    exact if_neg (show ¬ (false = true) by decide)
  rw [er]
  cases hc : (7 == t.mask && t.dummies.isEmpty) with
  | true =>
    rw [if_pos rfl]
    rw [Bool.and_eq_true] at hc
    have hm : t.mask = 7 := (eq_of_beq hc.1).symm
    refine wpAny_storeSet_of hr0 rfl ?_ (show 1 ≤ sizeLine by decide)
    refine h _ ⟨_, _, _, tk, store_at hr0 rfl, ⟨rfl, rfl, rfl⟩, rfl, ?_, hm, hr, hled⟩ (sb _ _)
    exact hf
  | false =>
    rw [if_neg (show ¬ (false = true) by decide)]
    have hl7 := laid1 (mask := 7) (f := 0) (mv := 0) (led := (!w.params.followText "set-order") && t.led) (pl := true && t.plain) (by simp) hk
    refine wpAny_bind (wpAny_of_eq (a := (#[(hashInt k, Value.int (k : Int) tk)], ({ mask := 7, place := #[k % 8], dummies := #[], finger := 0, led := (!w.params.followText "set-order") && t.led, moves := 0, plain := true && t.plain } : SetTable))) ?_ ?_)
    · have e7 : SetTable.laid (SetTable.fresh 0 0 !w.params.followText "set-order").mask (SetTable.fresh 0 0 !w.params.followText "set-order").finger (SetTable.fresh 0 0 !w.params.followText "set-order").moves ((SetTable.fresh 0 0 !w.params.followText "set-order").led && t.led) ((SetTable.fresh 0 0 !w.params.followText "set-order").plain && t.plain) #[hashInt k] = _ := hl7
      have em : Array.map (fun x : Int × Value => x.fst) #[(hashInt k, Value.int (k : Int) tk)] = #[hashInt k] := by simp
      rw [em, e7]
      rfl
    · dsimp only
      refine wpAny_storeSet_of hr0 rfl ?_ (show 1 ≤ sizeLine by decide)
      refine h _ ⟨_, _, _, tk, store_at hr0 rfl, ⟨rfl, rfl, rfl⟩, rfl, ?_, rfl, ?_, hled⟩ (sb _ _)
      · rfl
      · exact List.pairwise_singleton _ _
end

end Jr
set_option Elab.async false
set_option linter.all false
set_option maxRecDepth 100000
set_option maxHeartbeats 4000000
namespace Jr
open PySem PySem.Spec PyProof.Rows L2 PpSet
section
variable {P : Program} {w : World} {A : Around} {E : Value → Shared → Prop} {s : Shared}
theorem room_one {r : Addr} {k m : Nat} {Q : Unit → Shared → Prop} (hk : k < 12) (hm : m < 13) (R : One7 w s.heap r k) (h : ∀ h', SetR w h' r (fun j => decide (j = (k : Int))) 1 → (∃ o es ep t, h'.get? r = some o ∧ o.data = .set es ep t ∧ t.fits es.size = true ∧ t.fill ≠ 0) → Heap.SameBut r s.heap h' → Q () { s with heap := h' }) :
    wpAny (model P w) A (setRoomFor r m) Q E s := by
  obtain ⟨o, ep, t, tk, ho, hex, hd, hf, h7, hr, hl⟩ := R
  have fl : ∀ t : SetTable, t.fits 1 = true → t.fill ≠ 0 := fun t ht => by
    unfold SetTable.fits at ht
    rw [Bool.and_eq_true] at ht
    have := eq_of_beq ht.1
    unfold SetTable.fill
    omega
  unfold setRoomFor
  refine wpAny_bind (wpAny_setState_of ho hd hf ?_)
  dsimp only
  have hp : t.place.size = 1 := by
    unfold SetTable.fits at hf
    rw [Bool.and_eq_true] at hf
    exact eq_of_beq hf.1
  cases hc : t.roomFor m with
  | none =>
    refine wpAny_pure (h s.heap (one_setR ho hex hd hf hr hl) ⟨o, _, ep, t, ho, hd, hf, fl t hf⟩ (Heap.SameBut.refl ..))
  | some wanted =>
    have hw : wanted = (1 + m) * 2 := by
      unfold SetTable.roomFor at hc
      split at hc
      · cases hc; rw [hp]
      · cases hc
    subst hw
    obtain ⟨m1, m2⟩ := room_mask m hm
    show wpAny _ _ (setRelay r ((1 + m) * 2)) _ _ _
    unfold setRelay
    refine wpAny_bind (wpAny_setState_of ho hd hf ?_)
    dsimp only
    rw [if_neg (by rw [sizeLine_eq]; omega)]
    have hlaid := laid1 (mask := SetTable.sizeAbove ((1 + m) * 2) - 1) (f := t.finger) (mv := t.movedTo (SetTable.sizeAbove ((1 + m) * 2) - 1)) (led := t.led) (pl := t.plain) m1 hk
    have em : Array.map (fun x : Int × Value => x.fst) #[(hashInt k, Value.int (k : Int) tk)] = #[hashInt k] := by simp
    refine wpAny_bind (wpAny_of_eq (a := (#[(hashInt k, Value.int (k : Int) tk)], ({ mask := SetTable.sizeAbove ((1 + m) * 2) - 1, place := #[k % (SetTable.sizeAbove ((1 + m) * 2) - 1 + 1)], dummies := #[], finger := t.finger, led := t.led, moves := t.movedTo (SetTable.sizeAbove ((1 + m) * 2) - 1), plain := t.plain } : SetTable))) ?_ ?_)
    · have e7 : t.relaid #[hashInt k] ((1 + m) * 2) = _ := hlaid
      rw [em, e7]
      rfl
    · dsimp only
      have hg1 : 1 ≤ SetTable.sizeAbove ((1 + m) * 2) - 1 := by
        simp only [List.mem_cons, List.not_mem_nil, or_false] at m1
        omega
      have hf2 : SetTable.fits ({ mask := SetTable.sizeAbove ((1 + m) * 2) - 1, place := #[k % (SetTable.sizeAbove ((1 + m) * 2) - 1 + 1)], dummies := #[], finger := t.finger, led := t.led, moves := t.movedTo (SetTable.sizeAbove ((1 + m) * 2) - 1), plain := t.plain } : SetTable) 1 = true := by
        unfold SetTable.fits SetTable.fill
        simp only [Bool.and_eq_true, decide_eq_true_eq]
        exact ⟨rfl, hg1⟩
      refine wpAny_storeSet_of ho hd ?_ (show 1 ≤ sizeLine by decide)
      exact h _ (one_setR (store_at ho hd) hex rfl hf2 (List.pairwise_singleton _ _) hl) ⟨_, _, _, _, store_at ho hd, rfl, hf2, fl _ hf2⟩ (Heap.SameBut.update ..)
/-- walking a set of ints that nobody sees -/
theorem for_pure {α β : Type} {M : Type → Type} [Monad M] [LawfulMonad M] {f : α → β → M (ForInStep β)} : ∀ (l : List α) (b : β), (∀ a ∈ l, f a b = pure (.yield b)) → forIn l b f = pure b
  | [], b, _ => by rw [List.forIn_nil]
  | a :: l, b, h => by
    rw [List.forIn_cons, h a List.mem_cons_self, pure_bind]
    exact for_pure l b fun x hx => h x (List.mem_cons_of_mem _ hx)
theorem set_walk {a : Addr} {es : Array (Int × Value)} {ep : Nat} {t : SetTable} {Q : Array (Int × Value) → Shared → Prop} (ha : SetAt s.heap a es ep t) (hf : t.fits es.size = true) (hl : w.params.followText "set-order" = true ∨ t.led = true)
    (h : ∀ (arr : Array (Int × Value)) (d : _), arr.toList.Perm es.toList → Q arr { s with drawn := d }) : wpAny (model P w) A (setWalk a) Q E s := by
  obtain ⟨o, ho, _, hd⟩ := ha
  unfold setWalk
  refine wpAny_bind (wpAny_setState_of ho hd hf ?_)
  dsimp only
  refine wpAny_bind (wpAny_byText ?_)
  cases hbt : w.params.followText "set-order" with
  | true =>
    refine wp_if_pos rfl ?_
    exact wpAny_bind (wpAny_askSetting (wpAny_pure (h _ s.drawn (pick_perm _ _))))
  | false =>
    refine wp_if_neg Bool.false_ne_true ?_
    have hled : t.led = true := hl.resolve_left (by rw [hbt]; exact Bool.false_ne_true)
    try refine wpAny_bind (wpAny_pure ?_)
    cases hdr : (!t.plain && decide (es.size > 1)) with
    | true =>
      refine wp_if_pos hdr ?_
      refine wpAny_bind (drawOrder_at _ _ _ _ (by rw [Array.length_toList]; exact Nat.le_refl _) fun ys d hp => wpAny_pure (h _ d ?_))
      rw [List.toList_toArray]; exact hp
    | false =>
      refine wp_if_neg (by show ¬ ((!t.plain && decide (es.size > 1)) = true); rw [hdr]; exact Bool.false_ne_true) ?_
      try refine wpAny_bind (wpAny_pure ?_)
      refine wpAny_bind (wpAny_of_eq (a := ()) ?_ ?_)
      · show (if (!t.led && decide (es.size > 1)) = true then unsupported "set:maker-not-led" else pure ()) = pure ()
        rw [hled] <;> rfl
      · exact wpAny_pure (h es s.drawn (List.Perm.refl _))
theorem good_ref {e : Int × Value} (g : GoodE e) : ∃ k tk, e.2 = .int k tk := let ⟨k, tk, h, _⟩ := g; ⟨k, tk, h⟩
theorem quiet_ints {a r : Addr} {Q : Bool → Shared → Prop} {o1 o2 : Obj} {es1 es2 : Array (Int × Value)} {ep1 ep2 : Nat} {t1 t2 : SetTable} (h1 : s.heap.get? a = some o1) (d1 : o1.data = .set es1 ep1 t1) (f1 : t1.fits es1.size = true) (g1 : ∀ e ∈ es1.toList, GoodE e)
    (h2 : s.heap.get? r = some o2) (d2 : o2.data = .set es2 ep2 t2) (f2 : t2.fits es2.size = true) (g2 : ∀ e ∈ es2.toList, GoodE e) (h : Q true s) : wpAny (model P w) A (setsQuiet [a, r]) Q E s := by
  unfold setsQuiet
  refine wpAny_bind ?_
  rw [List.forIn_cons]
  refine wpAny_bind (wpAny_bind ?_)
  unfold setEntries
  refine wpAny_bind (wpAny_setState_of h1 d1 f1 (wpAny_pure ?_))
  dsimp only
  refine wpAny_bind ?_
  rw [← Array.forIn_toList]
  refine wpAny_of_eq (for_pure _ _ fun e he => ?_) ?_
  · obtain ⟨k, tk, e1⟩ := good_ref (g1 e he)
    obtain ⟨x, y⟩ := e
    simp only at e1
    subst e1
    rfl
  · dsimp only
    refine wpAny_pure ?_
    dsimp only
    rw [List.forIn_cons]
    refine wpAny_bind (wpAny_bind ?_)
    refine wpAny_bind (wpAny_setState_of h2 d2 f2 (wpAny_pure ?_))
    dsimp only
    refine wpAny_bind ?_
    rw [← Array.forIn_toList]
    refine wpAny_of_eq (for_pure _ _ fun e he => ?_) ?_
    · obtain ⟨k, tk, e1⟩ := good_ref (g2 e he)
      obtain ⟨x, y⟩ := e
      simp only at e1
      subst e1
      rfl
    · dsimp only
      refine wpAny_pure ?_
      dsimp only
      rw [List.forIn_nil]
      exact wpAny_pure (wpAny_pure h)
end
end Jr
set_option Elab.async false
set_option linter.all false
set_option maxRecDepth 100000
set_option maxHeartbeats 4000000
namespace Jr
open PySem PySem.Spec PyProof.Rows L2 PpSet
theorem entry_set_or : entryFor table "set.__or__" = some Builtin.«frozenset.__or__» :=
  entryFor_alias (id' := "frozenset.__or__") (by kernel_rfl) rfl (by decide +kernel) (by kernel_rfl)
section
variable {P : Program} {w : World} {A : Around} {E : Value → Shared → Prop} {s : Shared}
theorem unseen_ints {a r : Addr} {S1 : Int → Bool} {n1 : Nat} {es : Array (Int × Value)} {ep : Nat} {t : SetTable} {Q : Array (Int × Value) → Shared → Prop} (ha : SetAt s.heap a es ep t) (hf : t.fits es.size = true) (hg : ∀ e ∈ es.toList, GoodE e) (hl : w.params.followText "set-order" = true ∨ t.led = true) (R : SetR w s.heap r S1 n1)
    (h : ∀ (arr : Array (Int × Value)) (h' : Heap) (d : _), arr.toList.Perm es.toList → SetR w h' r S1 n1 → Heap.SameBut r s.heap h' → Q arr { s with heap := h', drawn := d }) : wpAny (model P w) A (setWalkUnseen a [r] (some r)) Q E s := by
  have ha' := ha
  obtain ⟨o, ho, hcl, hd⟩ := ha
  have R' := R
  obtain ⟨o2, es2, ep2, t2, ho2, hex2, hd2, g2, nd2, hm2, hb2, hf2, hn2, hr2, hl2⟩ := R
  unfold setWalkUnseen
  refine wpAny_bind (wpAny_setState_of ho hd hf ?_)
  dsimp only
  refine wpAny_bind (wpAny_byText ?_)
  cases hc : (w.params.followText "set-order" || t.led && t.plain || decide (es.size ≤ 1)) with
  | true =>
    refine wp_if_pos rfl ?_
    exact set_walk ha' hf hl fun arr d hp => h arr s.heap d hp R' (Heap.SameBut.refl ..)
  | false =>
    refine wp_if_neg (by decide) ?_
    try refine wpAny_bind (wpAny_pure ?_)
    have hbt : w.params.followText "set-order" = false := by
      cases e : w.params.followText "set-order" with
      | false => rfl
      | true => rw [e] at hc; simp at hc
    refine wpAny_bind (quiet_ints ho hd hf hg ho2 hd2 hf2 g2 ?_)
    refine wp_if_neg (by decide) ?_
    try refine wpAny_bind (wpAny_pure ?_)
    refine wpAny_bind (wpAny_rule ?_)
    refine wpAny_bind (wpAny_setState_of ho2 hd2 hf2 ?_)
    dsimp only
    have hled : t.led = true := hl.resolve_left (by rw [hbt]; decide)
    have hled2 : t2.led = true := hl2.resolve_left (by rw [hbt]; decide)
    split
    · refine wpAny_bind (wpAny_storeSet_of ho2 hd2 ?_ (fits_of_scanBound hb2))
      refine wpAny_pure (h es _ s.drawn (List.Perm.refl _) ?_ (Heap.SameBut.update ..))
      exact ⟨_, es2, _, _, store_at ho2 hd2, hex2, rfl, g2, nd2, hm2, hb2, (by cases t2; exact hf2), hn2, hr2, .inr (by simp [hled, hled2])⟩
    · exact wpAny_pure (h es s.heap s.drawn (List.Perm.refl _) R' (Heap.SameBut.refl ..))
theorem add_all {a r : Addr} {es : Array (Int × Value)} {ep : Nat} {t : SetTable} (hne : a ≠ r) (hf : t.fits es.size = true) {f : Int × Value → PUnit → Sem (ForInStep PUnit)}
    (hstep : ∀ (x : Int × Value) (s : Shared) (Q : ForInStep PUnit → Shared → Prop), wpAny (model P w) A (setAddHashed r x.2 x.1) (fun _ s' => SetAt s'.heap a es ep t ∧ Q (.yield PUnit.unit) s') E s → wpAny (model P w) A (f x PUnit.unit) Q E s) :
    ∀ (l : List (Int × Value)) (s : Shared) (S1 : Int → Bool) (n1 : Nat) (Q : PUnit → Shared → Prop), (∀ e ∈ l, GoodE e) → SetR w s.heap r S1 n1 → SetAt s.heap a es ep t → n1 + l.length + 1 < scanBound →
      (∀ h' n', SetR w h' r (fun j => S1 j || decide (j ∈ l.map keyOf)) n' → n' ≤ n1 + l.length → Heap.SameBut r s.heap h' → Q PUnit.unit { s with heap := h' }) → wpAny (model P w) A (forIn l PUnit.unit f) Q E s
  | [], s, S1, n1, Q, _, R, _, _, h => by
    rw [List.forIn_nil]
    exact wpAny_pure (h s.heap n1 (R.congr fun j => by simp) (Nat.le_refl _) (Heap.SameBut.refl ..))
  | e :: l, s, S1, n1, Q, g, R, ha, hb, h => by
    rw [List.forIn_cons]
    obtain ⟨k, tk, e1, e2⟩ := g e List.mem_cons_self
    rw [List.length_cons] at hb
    refine wpAny_bind (hstep e s _ ?_)
    rw [e1, e2]
    show wpAny _ _ (setAddHashed r (.int k tk) ((intKind P w).hash k)) _ _ _
    refine setR_add_hashed R (by omega) fun h' sb R' => ?_
    have ha' : SetAt h' a es ep t := ha.at fun o q => (sb.2 a hne).trans q
    refine ⟨ha', ?_⟩
    dsimp only
    refine add_all hne hf hstep l _ _ _ Q (fun x hx => g x (List.mem_cons_of_mem _ hx)) R' ha' ?_ fun h2 n2 R2 hn2 sb2 => ?_
    · split <;> omega
    · refine h h2 n2 (R2.congr fun j => ?_) ?_ (sb.trans sb2)
      · rw [List.map_cons]
        have hk : keyOf e = k := by unfold keyOf; rw [e1]
        rw [hk]
        simp only [List.mem_cons]
        by_cases hj : j = k <;> simp [hj]
      · rw [List.length_cons]
        split at hn2 <;> omega
theorem merge_ints {r a : Addr} {k m : Nat} {id : String} {was : Nat} {S : Int → Bool} {Q : Unit → Shared → Prop} {es : Array (Int × Value)} {t : SetTable} (hk : k < 12) (hm : m < 13) (hne : r ≠ a) (R1 : One7 w s.heap r k) {o : Obj} (ho : s.heap.get? a = some o) (hex : o.ExactSet) (hd : o.data = .set es was t) (hg : ∀ e ∈ es.toList, GoodE e) (hmem : ∀ j, S j = true ↔ j ∈ es.toList.map keyOf) (hsz : es.size = m) (hf : t.fits es.size = true) (hl : w.params.followText "set-order" = true ∨ t.led = true)
    (h : ∀ h' d n', SetR w h' r (fun j => decide (j = (k : Int)) || S j) n' → n' ≤ 1 + m → Heap.SameBut r s.heap h' → Q () { s with heap := h', drawn := d }) : wpAny (model P w) A (setMerge r a (Builtin.Frozenset.unchanged id a was)) Q E s := by
  unfold setMerge
  rw [if_neg (by simpa using hne)]
  refine wpAny_bind (wpAny_setState_of ho hd hf ?_)
  dsimp only
  by_cases he : es = #[]
  · subst he
    refine wp_if_pos rfl ?_
    refine wpAny_pure (h s.heap s.drawn 1 (R1.setR.congr fun j => ?_) (by omega) (Heap.SameBut.refl ..))
    have : S j = false := by
      cases e : S j with
      | false => rfl
      | true => have := (hmem j).mp e; simp at this
    rw [this, Bool.or_false]
  · refine wp_if_neg (by
      intro hh
      exact he (by simpa using hh)) ?_
    refine wpAny_bind (room_one hk (by rw [hsz]; exact hm) R1 fun h1 R2 hx sb => ?_)
    obtain ⟨o2, es2, ep2, t2, ho2, hd2, hf2, hfl⟩ := hx
    refine wpAny_bind (wpAny_setState_of ho2 hd2 hf2 ?_)
    dsimp only
    have er : t2.road t = .oneByOne := by
      unfold SetTable.road
      exact if_pos (by simpa using hfl)
    rw [er]
    dsimp only
    have ha1 : SetAt h1 a es was t := ⟨o, (sb.2 a (Ne.symm hne)).trans ho, hex.1, hd⟩
    refine wpAny_bind (unseen_ints (s := { s with heap := h1 }) ha1 hf hg hl R2 fun arr h2 d hp R3 sb2 => ?_)
    have ha2 : SetAt h2 a es was t := ha1.at fun o q => (sb2.2 a (Ne.symm hne)).trans q
    refine wpAny_bind ?_
    rw [← Array.forIn_toList]
    have hlen : arr.toList.length = m := by rw [hp.length_eq, Array.length_toList, hsz]
    refine add_all (Ne.symm hne) hf (fun x s Q' hx => ?_) arr.toList _ _ _ _ (fun e he => hg e (hp.mem_iff.mp he)) R3 ha2 (by rw [hlen]; unfold scanBound; omega) fun h3 n3 R4 hn3 sb3 => ?_
    · refine wpAny_bind (wpAny_holding (wpAny_mono hx (fun _ s' hs' => ?_) fun _ _ z => z))
      obtain ⟨⟨o', ho', _, hd'⟩, q'⟩ := hs'
      refine wpAny_bind ?_
      unfold Builtin.Frozenset.unchanged
      refine wpAny_bind ?_
      unfold setEpoch
      refine wpAny_bind (wpAny_setState_of ho' hd' hf (wpAny_pure ?_))
      dsimp only
      refine wp_if_neg (by simp) ?_
      refine wpAny_pure ?_
      refine wpAny_bind (wpAny_setState_of ho' hd' hf ?_)
      dsimp only
      refine wp_if_neg (by simp) ?_
      exact wpAny_pure q'
    · refine wpAny_pure (h h3 d n3 (R4.congr fun j => ?_) (by omega) ((sb.trans sb2).trans sb3))
      congr 1
      have : S j = decide (j ∈ arr.toList.map keyOf) := by
        rw [Bool.eq_iff_iff, hmem j, decide_eq_true_eq]
        exact (hp.map keyOf).mem_iff.symm
      exact this
end
end Jr
set_option Elab.async false
set_option linter.all false
set_option maxRecDepth 100000
set_option maxHeartbeats 4000000
namespace Jr
open PySem PySem.Spec PyProof.Rows L2 PpSet
section
variable {P : Program} {w : World} {A : Around} {E : Value → Shared → Prop} {s : Shared}
theorem any_set {a : Addr} {Q : Bool → Shared → Prop} (hT : s.TypeIs (.ref a) "set") (h : Q true s) : wpAny (model P w) A (Builtin.Frozenset.isAnySet (.ref a)) Q E s := by
  unfold Builtin.Frozenset.isAnySet orM
  refine wpAny_bind (wpAny_isInstance (T := "set") (b := true) hT sub_set_self ?_)
  exact wpAny_pure h
theorem union_ints {a b : Addr} {k m : Nat} {S1 S : Int → Bool} {Q : Value → Shared → Prop} (hk : k < 12) (hm : m < 13) (hne : a ≠ b) (R1 : SetR w s.heap a S1 1) (hS1 : ∀ j, S1 j = decide (j = (k : Int))) (R : SetR w s.heap b S m)
    (h : ∀ h' d n', SetR w h' s.heap.objs.size (fun j => decide (j = (k : Int)) || S j) n' → n' ≤ 1 + m → (∀ c o, s.heap.get? c = some o → h'.get? c = some o) → Q (.ref s.heap.objs.size) { s with heap := h', drawn := d }) :
    wpAny (model P w) A (binaryOp .BitOr (.ref a) (.ref b)) Q E s := by
  obtain ⟨oa, _, _, _, hoa, hxa, _⟩ := id R1
  have hTa : s.TypeIs (.ref a) "set" := ⟨oa, hoa, hxa.1⟩
  obtain ⟨o, es, ep, t, ho, hex, hd, g, nd, hmem, hb, hf, hn, hr, hl⟩ := R
  have hTb : s.TypeIs (.ref b) "set" := ⟨o, ho, hex.1⟩
  refine wpAny_binaryOp_same hTa hTb F.fills_set_or F.slot_set_or (wpAny_call_entry F.slot_set_or hTa entry_set_or ?_ (F.args_set_or_2 _ _))
  have hbne : b ≠ s.heap.objs.size := Nat.ne_of_lt (Heap.lt_size ho)
  have hane : a ≠ s.heap.objs.size := Nat.ne_of_lt (Heap.lt_size hoa)
  unfold Builtin.«frozenset.__or__»
  show wpAny _ _ (Builtin.Frozenset.slot1 "__or__" ⟨[.ref a, .ref b], []⟩ >>= _) _ _ _
  refine wpAny_bind ?_
  unfold Builtin.Frozenset.slot1
  refine wpAny_bind (wpAny_of_eq (a := (Value.ref a, [Value.ref b])) (by rfl) ?_)
  refine wpAny_pure ?_
  dsimp only
  rw [if_neg (by decide)]
  dsimp only
  refine wpAny_bind ?_
  unfold andM
  refine wpAny_bind (any_set hTa ?_)
  refine wpAny_mono (any_set hTb (Q := fun b s' => b = true ∧ s' = s) ⟨rfl, rfl⟩) (fun bb s' hb' => ?_) (fun _ _ z => z)
  obtain ⟨rfl, rfl⟩ := hb'
  refine wp_if_neg (by decide) ?_
  refine wpAny_bind (wpAny_pure ?_)
  refine wpAny_bind ?_
  wp_delta
  refine wpAny_bind ?_
  unfold Builtin.Frozenset.copyOf Builtin.Frozenset.baseOf
  refine wpAny_bind (wpAny_bind (wpAny_isInstance (T := "set") (b := true) hTa sub_set_self (wpAny_pure ?_)))
  rw [if_pos rfl]
  refine wpAny_bind (newSet_ok ?_)
  refine wpAny_bind (wpAny_pure ?_)
  have hr0 : (s'.heap.push { cls := .type "set", dict := none, data := .set #[] 0 (.fresh 0 0 (!w.params.followText "set-order")) }).get? s'.heap.objs.size = some { cls := .type "set", dict := none, data := .set #[] 0 (.fresh 0 0 (!w.params.followText "set-order")) } := Heap.get?_push_size _ rfl
  refine wpAny_bind (merge_one (s := { s' with heap := s'.heap.push { cls := .type "set", dict := none, data := .set #[] 0 (.fresh 0 0 (!w.params.followText "set-order")) } }) hk (Ne.symm hane) hr0 (R1.at fun o q => Heap.get?_push_of_some _ q) hS1 fun h1 R7 sb1 => ?_)
  refine wpAny_pure ?_
  rw [if_pos (by simpa using Ne.symm hne)]
  refine wpAny_bind (wpAny_pure ?_)
  refine wpAny_bind (wpAny_holding ?_)
  have ho1 : h1.get? b = some o := (sb1.2 b hbne).trans (Heap.get?_push_of_some _ ho)
  unfold Builtin.Frozenset.updateFrom
  refine wpAny_bind (any_set ⟨o, ho1, hex.1⟩ ?_)
  refine wp_if_pos rfl ?_
  refine wpAny_bind (wpAny_pure ?_)
  unfold Builtin.Frozenset.merge
  refine wpAny_bind ?_
  unfold setEpoch
  refine wpAny_bind (wpAny_setState_of ho1 hd hf (wpAny_pure ?_))
  dsimp only
  refine merge_ints hk hm (Ne.symm hbne) R7 ho1 hex hd g hmem hn hf hl fun h2 d n' R2 hn' sb2 => ?_
  refine wpAny_pure (wpAny_pure ⟨_, rfl, by simp, h h2 d n' R2 hn' fun c oc q => ?_⟩)
  have hc : c ≠ s'.heap.objs.size := Nat.ne_of_lt (Heap.lt_size q)
  exact (sb2.2 c hc).trans ((sb1.2 c hc).trans (Heap.get?_push_of_some _ q))
end
/-! ### the rules -/
/-- a set of one int united with another set -/
def rOrI (w : World) : R2 := fun x y H Q => ∃ (a b : Addr) (k m : Nat) (S1 S : Int → Bool), x = .ref a ∧ y = .ref b ∧ k < 12 ∧ m < 13 ∧ a ≠ b ∧ H a = some (SetO w a S1 1) ∧ (∀ j, S1 j = decide (j = (k : Int))) ∧ H b = some (SetO w b S m) ∧
  ∀ p n, H p = none → n ≤ 1 + m → Q (.ref p) (upd H p (SetO w p (fun j => decide (j = (k : Int)) || S j) n))
theorem op_orI {X : Cx} : OpR X (binaryOp .BitOr) (rOrI X.w) := by
  intro pins s σ H x y v u Q I rx ry h
  obtain ⟨a, b, k, m, S1, S, rfl, rfl, hk, hm, hne, ha, hS1, hb, q⟩ := h
  cases rx
  cases ry
  refine union_ints hk hm hne (setO_get I ha) hS1 (setO_get I hb) fun h' d n' R hn' kk => ?_
  have I1 : L2.Inv X pins σ (upd H s.heap.objs.size (SetO X.w s.heap.objs.size (fun j => decide (j = (k : Int)) || S j) n')) { s with heap := h', drawn := d } := by
    refine I.call (ch := []) (Un.laid kk (Nat.le_refl _) (I.hok.fresh (Nat.le_refl _))) ?_ I.bare (fun _ z => nomatch z)
    exact I.hok.laid kk (Nat.le_refl _) (setO_new R)
  exact ⟨.ref _, _, I1, rfl, q _ n' (I.hok.fresh (Nat.le_refl _)) hn'⟩
structure aSorted (w : World) (xs : List V) (H : Hp) (Q : VK) : Prop where
  ex : rSortedSet w xs H Q
theorem pe_sortedS {X : Cx} {w : World} {e : Expr} {te : TE} {p1 pos : Pos} (T : Tx X.mg) (hc : X.calm = true) (he : PE X e te) (hw : X.w = w := by rfl) (hg : Gl X "sorted" := by rfl) (h1 : starEach [e] X.env = (false, eval e X.env) :: starEach [] X.env := by rfl) :
    PE X (.Call (.Name "sorted" p1) [e] [] pos) (tCB (aSorted w) (tCons te tNil)) := by
  subst hw
  exact pe_callB (callR_of (cr_sortedSet hc) fun _ _ _ h => h.ex) hg T.sorted boot_sorted (pa_cons he pa_nil h1) (by decide) (by decide) h1 rfl
theorem pe_setI {X : Cx} {w : World} {K : PySem.W.Frag} {e : Expr} {te : TE} {p1 pos : Pos} (T : Tx X.mg) (hc : X.calm = true) (he : PE X e te) (hw : X.w = w := by rfl) (hK : X.K = K := by rfl) (hg : Gl X "set" := by rfl) (h1 : starEach [e] X.env = (false, eval e X.env) :: starEach [] X.env := by rfl) :
    PE X (.Call (.Name "set" p1) [e] [] pos) (tCB (aSetI w K) (tCons te tNil)) := by
  subst hw hK
  exact pe_callTy (cr_setI hc) hg T.set PyProof.Rows.boot_set (pa_cons he pa_nil h1) (by decide) (by decide) h1 rfl
end Jr
set_option Elab.async false
set_option linter.all false
set_option maxRecDepth 100000
set_option maxHeartbeats 4000000
/-! Data to any depth: codes of typed readings, for == and in. -/
namespace Jr
open PySem PySem.Spec PyProof.Rows L2
structure EncOk {α : Type} [DecidableEq α] (enc : α → PyData) (d : Nat) : Prop where
  lay : ∀ a, (enc a).canLay0 = true
  dep : ∀ a, (enc a).depth ≤ d
  eq : ∀ a b, PyData.eqv (enc a) (enc b) = decide (a = b)
theorem encN : EncOk (fun n : Nat => PyData.int (n : Int)) 1 := by
  refine ⟨fun _ => by simp [PyData.canLay0], fun _ => by simp [PyData.depth], fun a b => ?_⟩
  have e : PyData.eqv (.int (a : Int)) (.int (b : Int)) = ((a : Int) == (b : Int)) := by simp only [PyData.eqv]
  rw [e, Bool.eq_iff_iff, beq_iff_eq, decide_eq_true_eq]
  omega
section
variable {α : Type} [DecidableEq α] {enc : α → PyData} {d : Nat}
theorem encAll_lay (h : EncOk enc d) : ∀ as : List α, PyData.canLayAll0 (as.map enc) = true
  | [] => by simp [PyData.canLayAll0]
  | a :: as => by simp [PyData.canLayAll0, h.lay a, encAll_lay h as]
theorem encAll_dep (h : EncOk enc d) : ∀ as : List α, PyData.depthAll (as.map enc) ≤ d
  | [] => by simp [PyData.depthAll]
  | a :: as => by
    have h1 := encAll_dep h as
    have h2 := h.dep a
    simp only [List.map_cons, PyData.depthAll]
    omega
theorem encAll_eq (h : EncOk enc d) : ∀ as bs : List α, PyData.eqvAll (as.map enc) (bs.map enc) = decide (as = bs)
  | [], [] => by simp [PyData.eqvAll]
  | [], b :: bs => by simp [PyData.eqvAll]
  | a :: as, [] => by simp [PyData.eqvAll]
  | a :: as, b :: bs => by
    simp only [List.map_cons, PyData.eqvAll, h.eq a b, encAll_eq h as bs]
    by_cases h1 : a = b <;> by_cases h2 : as = bs <;> simp [h1, h2]
theorem encT (h : EncOk enc d) : EncOk (fun as : List α => PyData.tuple (as.map enc)) (d + 1) :=
  ⟨fun as => by simp only [PyData.canLay0]; exact encAll_lay h as, fun as => by simp only [PyData.depth]; have := encAll_dep h as; omega, fun as bs => by simp only [PyData.eqv]; exact encAll_eq h as bs⟩
theorem encL (h : EncOk enc d) : EncOk (fun as : List α => PyData.list (as.map enc)) (d + 1) :=
  ⟨fun as => by simp only [PyData.canLay0]; exact encAll_lay h as, fun as => by simp only [PyData.depth]; have := encAll_dep h as; omega, fun as bs => by simp only [PyData.eqv]; exact encAll_eq h as bs⟩
theorem EncOk.shaped (h : EncOk enc d) (hd : d ≤ 64) (a : α) : SeqAt.shaped (enc a) = true := by
  show ((enc a).canLay0 && decide ((enc a).depth ≤ 64)) = true
  rw [Bool.and_eq_true]
  exact ⟨h.lay a, decide_eq_true (Nat.le_trans (h.dep a) hd)⟩
/-- a reading's code stands in the heap -/
def DpR (K : PySem.W.Frag) {α : Type} (R : Rp α) (enc : α → PyData) : Prop := ∀ H v a, R H v a → Dp K H v (enc a)
variable {K : PySem.W.Frag} {R : Rp α}
theorem dp_nat : DpR K NatR (fun n : Nat => PyData.int (n : Int)) := fun H v n h => by
  have : v = .int (n : Int) := h
  subst this; exact .int _
theorem dp_all (h : DpR K R enc) {H : Hp} : ∀ {xs : List V} {as : List α}, Paired (R H) xs as → DpAll K H xs (as.map enc)
  | _, _, .nil => .nil
  | _, _, .cons r t => .cons (h _ _ _ r) (dp_all h t)
theorem dp_tup (h : DpR K R enc) : DpR K (TupOf R) (fun as => PyData.tuple (as.map enc)) := fun H v as ⟨a, xs, e, ha, p⟩ => by
  subst e; exact .tup (SqT.of ha) (dp_all h p)
theorem dp_lst (h : DpR K R enc) : DpR K (LstOf R) (fun as => PyData.list (as.map enc)) := fun H v as ⟨a, xs, e, ha, p⟩ => by
  subst e; exact .lst (SqL.of ha) (dp_all h p)
end
/-! ### == and != by readings -/
structure rEqR (K : PySem.W.Frag) (x y : V) (H : Hp) (Q : VK) : Prop where
  ex : rEqD K x y H Q
structure rNeR (K : PySem.W.Frag) (x y : V) (H : Hp) (Q : VK) : Prop where
  ex : rNeD K x y H Q
theorem op_eqR {X : Cx} (hu : X.A.units + 64 < cLine) : OpR X (compareOp .Eq) (rEqR X.K) := fun pins s σ H x y v u Q I rx ry h => op_eqD hu pins s σ H x y v u Q I rx ry h.ex
theorem op_neR {X : Cx} (hu : X.A.units + 64 < cLine) : OpR X (compareOp .NotEq) (rNeR X.K) := fun pins s σ H x y v u Q I rx ry h => op_neD hu pins s σ H x y v u Q I rx ry h.ex
section
variable {α : Type} [DecidableEq α] {enc : α → PyData} {d : Nat} {K : PySem.W.Frag} {R S : Rp α} {H : Hp} {x y : V} {a b : α} {Q : VK}
theorem eq_R (e : EncOk enc d) (hd : d ≤ 64) (p : DpR K R enc) (p' : DpR K S enc) (r : R H x a) (r' : S H y b) (q : Q (.bl (decide (a = b))) H) : rEqR K x y H Q :=
  ⟨⟨enc a, enc b, p _ _ _ r, p' _ _ _ r', e.shaped hd a, e.shaped hd b, by rw [e.eq]; exact q⟩⟩
theorem ne_R (e : EncOk enc d) (hd : d ≤ 64) (p : DpR K R enc) (p' : DpR K S enc) (r : R H x a) (r' : S H y b) (q : Q (.bl (!decide (a = b))) H) : rNeR K x y H Q :=
  ⟨⟨enc a, enc b, p _ _ _ r, p' _ _ _ r', e.shaped hd a, e.shaped hd b, by rw [e.eq]; exact q⟩⟩
end
theorem hu64 {k : Nat} {A : Around} (hr : Room k A) : A.units + 64 < cLine := by have := hr.un; omega
theorem hu65 {k : Nat} {A : Around} (hr : Room k A) : A.units + 65 < cLine := by have := hr.un; omega
/-! ### list(x) -/
structure aList (K : PySem.W.Frag) (xs : List V) (H : Hp) (Q : VK) : Prop where
  ex : ∃ p ys, xs = [.ref p] ∧ (SqL K H p ys ∨ SqT K H p ys) ∧ ∀ l, H l = none → Q (.ref l) (upd H l (.lst ys))
theorem pe_list {X : Cx} {K : PySem.W.Frag} {e : Expr} {te : TE} {p1 pos : Pos} (T : Tx X.mg) (he : PE X e te) (hK : X.K = K := by rfl) (hg : Gl X "list" := by rfl) (h1 : starEach [e] X.env = (false, eval e X.env) :: starEach [] X.env := by rfl) :
    PE X (.Call (.Name "list" p1) [e] [] pos) (tCB (aList K) (tCons te tNil)) := by
  subst hK
  exact pe_callTy (callR_of call_list_of fun _ _ _ h => h.ex) hg T.list boot_list (pa_cons he pa_nil h1) (by decide) (by decide) h1 rfl
theorem list_tup {K : PySem.W.Frag} {H : Hp} {a : Addr} {xs : List V} {Q : VK} (h : H a = some (.tup xs)) (q : ∀ l, H l = none → Q (.ref l) (upd H l (.lst xs))) : aList K [.ref a] H Q := ⟨a, xs, rfl, .inr (SqT.of h), q⟩
end Jr
set_option Elab.async false
set_option linter.all false
set_option maxRecDepth 100000
set_option maxHeartbeats 4000000
/-! Comprehensions with two clauses, by typed readings. -/
namespace Jr
open PySem PySem.Spec PyProof.Rows L2 PpSet
/-- a loop's shape, whatever a turn does -/
theorem w_it {J : It} {n : Nat} {G : Hp → Prop} {Y : Nat → Hp → V → Hp → Prop} (w : Walk J n G Y) {H0 : Hp} {Qd : Hp → Prop} {B : (Hp → Prop) → V → Hp → Prop} (Pv : Nat → Hp → Prop) (h0 : Pv 0 H0) (hG : ∀ i H, i ≤ n → Pv i H → G H)
    (hs : ∀ i x H H', i < n → Pv i H → Y i H x H' → B (Pv (i + 1)) x H') (hd : ∀ H, Pv n H → Qd H) :
    ∃ W : Nat → Nat → Hp → Prop, (∃ m, W 0 m H0) ∧ ∀ i m H, W i m H → (J.stop i H ∧ Qd H) ∨ (J.go i H ∧ ∃ Nx : Hp → Prop, (∀ H', Nx H' → ∃ m', m' < m ∧ W (i + 1) m' H') ∧ ∀ x H', J.yld i H x H' → B Nx x H') := by
  refine ⟨fun i m H => m = n - i ∧ i ≤ n ∧ Pv i H, ⟨n, by simp, Nat.zero_le _, h0⟩, ?_⟩
  rintro i m H ⟨rfl, hi, p⟩
  have q := hG i H hi p
  by_cases hlt : i < n
  · exact .inr ⟨w.goes i H hlt q, Pv (i + 1), fun H' p' => ⟨n - (i + 1), by omega, rfl, hlt, p'⟩, fun x H' y => hs i x H H' hlt p (w.yields i H x H' hlt q y)⟩
  · have e : i = n := by omega
    subst e
    exact .inl ⟨w.stops H q, hd H p⟩
theorem Ud.trans {D : Addr} {H H1 H2 : Hp} (u : Ud D H H1) (v : Ud D H1 H2) : Ud D H H2 := ⟨u.1, fun c o hc h => v.2 c o hc (u.2 c o hc h)⟩
theorem Ud.free {D : Addr} {H H' H'' : Hp} (u : Ud D H' H'') (s : Same H H') (h : H D = none) : Same H H'' := fun c o e => u.2 c o (fun q => by rw [q, h] at e; cases e) (s c o e)
section
variable {J : It} {n : Nat} {G : Hp → Prop} {Y : Nat → Hp → V → Hp → Prop} {g g1 : TG} {wi1 : TI} {te : TE} {vs vs1 : List Nat} {σ : L2.St} {H1 : Hp} {Q : VK}
/-- what a comprehension with two clauses asks behind its first source -/
def Lc2G (J : It) (g : TG) (wi1 : TI) (g1 : TG) (te : TE) (vs vs1 : List Nat) (σ : L2.St) (H1 : Hp) (Q : VK) : Prop := ∀ D, H1 D = none → ∃ W : Nat → Nat → Hp → Prop, (∃ m, W 0 m (upd H1 D (.lst []))) ∧ ∀ i m H, W i m H →
  (J.stop i H ∧ Q (.ref D) H) ∨ (J.go i H ∧ ∃ Nx : Hp → Prop, (∀ H', Nx H' → ∃ m', m' < m ∧ W (i + 1) m' H') ∧ ∀ x H', J.yld i H x H' → g x (wipe σ vs) H' fun σ2 H2 => wipe σ2 vs = wipe σ vs ∧ tYes σ2 H2 fun b H3 =>
    if b = true then wi1 σ2 H3 fun J1 H4 => ∃ W1 : Nat → Nat → Hp → Prop, (∃ m, W1 0 m H4) ∧ ∀ j k H, W1 j k H →
      (J1.stop j H ∧ Nx H) ∨ (J1.go j H ∧ ∃ Nx1 : Hp → Prop, (∀ H', Nx1 H' → ∃ k', k' < k ∧ W1 (j + 1) k' H') ∧ ∀ x H', J1.yld j H x H' → g1 x (wipe σ2 vs1) H' fun σ3 H5 => wipe σ3 vs1 = wipe σ2 vs1 ∧ tYes σ3 H5 fun b H6 =>
        if b = true then te σ3 H6 fun y H7 => ∃ acc, H7 D = some (.lst acc) ∧ acc.length < sizeLine ∧ Nx1 (upd H7 D (.lst (acc ++ [y]))) else Nx1 H6)
    else Nx H3)
def tL2 (wi : TI) (g : TG) (wi1 : TI) (g1 : TG) (te : TE) (vs vs1 : List Nat) : TE := fun σ H Q => wi σ H fun J H1 => Lc2G J g wi1 g1 te vs vs1 σ H1 Q
theorem lc2_map {α β γ : Type} (w : Walk J n G Y) (as : List α) (hn : n = as.length) (bs : α → List β) (f : α → β → γ) (hsz : (as.flatMap fun a => (bs a).map (f a)).length ≤ 100000) {RO : Addr → Rp γ} (st : StD RO)
    (hG : ∀ H, Same H1 H → G H)
    (turn : ∀ (D : Addr) (i : Nat) (a : α) (x : V) (H H' : Hp) (KI : L2.St → It → Hp → Prop), H1 D = none → (∃ acc, H D = some (.lst acc)) → as[i]? = some a → Same H1 H → Y i H x H' →
      (∀ (σ2 : L2.St) (H3 : Hp) (J1 : It) (n1 : Nat) (G1 : Hp → Prop) (Y1 : Nat → Hp → V → Hp → Prop), Walk J1 n1 G1 Y1 → n1 = (bs a).length → Same H H3 → (∀ H4, Ud D H3 H4 → G1 H4) →
        (∀ (j : Nat) (b : β) (x1 : V) (H5 H6 : Hp) (Kn : V → Hp → Prop), (bs a)[j]? = some b → Ud D H3 H5 → (∃ acc, H5 D = some (.lst acc)) → Y1 j H5 x1 H6 → (∀ y H7, Same H5 H7 → RO D H7 y (f a b) → Kn y H7) →
          g1 x1 (wipe σ2 vs1) H6 fun σ3 H7 => wipe σ3 vs1 = wipe σ2 vs1 ∧ te σ3 H7 Kn) → KI σ2 J1 H3) →
      g x (wipe σ vs) H' fun σ2 H2 => wipe σ2 vs = wipe σ vs ∧ wi1 σ2 H2 (KI σ2))
    (k : ∀ D ys H2, H1 D = none → Same H1 H2 → H2 D = some (.lst ys) → Paired (RO D H2) ys (as.flatMap fun a => (bs a).map (f a)) → Q (.ref D) H2) : Lc2G J g wi1 g1 te vs vs1 σ H1 Q := by
  intro D hD
  subst hn
  have lenOf : ∀ (i : Nat) (a : α) (j : Nat), as[i]? = some a → (((as.take i).flatMap fun a => (bs a).map (f a)) ++ (((bs a).take j).map (f a))).length ≤ 100000 := by
    intro i a j ha
    refine Nat.le_trans ?_ hsz
    obtain ⟨hi, e⟩ := List.getElem?_eq_some_iff.mp ha
    have e1 : as = as.take i ++ (a :: as.drop (i + 1)) := by rw [← e, ← List.drop_eq_getElem_cons hi, List.take_append_drop]
    conv => rhs; rw [e1]
    rw [List.flatMap_append, List.flatMap_cons, List.length_append, List.length_append, List.length_append, List.length_map, List.length_map, List.length_take]
    omega
  refine w_it w (fun i H => Same H1 H ∧ ∃ acc, H D = some (.lst acc) ∧ Paired (RO D H) acc ((as.take i).flatMap fun a => (bs a).map (f a))) ⟨sm_new hD, [], upd_same, .nil⟩ (fun i H _ h => hG H h.1) ?_ ?_
  · rintro i x H H' hi ⟨sm, acc, hacc, pd⟩ hy
    obtain ⟨a, ha⟩ := get_lt hi
    refine turn D i a x H H' (fun σ2 J1 H4 => ∃ W1 : Nat → Nat → Hp → Prop, (∃ m, W1 0 m H4) ∧ ∀ j k H, W1 j k H →
      (J1.stop j H ∧ _) ∨ (J1.go j H ∧ ∃ Nx1 : Hp → Prop, (∀ H', Nx1 H' → ∃ k', k' < k ∧ W1 (j + 1) k' H') ∧ ∀ x H', J1.yld j H x H' → g1 x (wipe σ2 vs1) H' fun σ3 H5 => wipe σ3 vs1 = wipe σ2 vs1 ∧ tYes σ3 H5 fun b H6 =>
        if b = true then te σ3 H6 fun y H7 => ∃ acc, H7 D = some (.lst acc) ∧ acc.length < sizeLine ∧ Nx1 (upd H7 D (.lst (acc ++ [y]))) else Nx1 H6)) hD ⟨acc, hacc⟩ ha sm hy ?_
    intro σ2 H3 J1 n1 G1 Y1 w1 hn1 s3 hG1 turn1
    subst hn1
    have u0 : Ud D H3 H3 := ⟨⟨acc, s3 _ _ hacc⟩, fun _ _ _ e => e⟩
    refine w_it w1 (fun j H5 => Ud D H3 H5 ∧ ∃ acc, H5 D = some (.lst acc) ∧ Paired (RO D H5) acc (((as.take i).flatMap fun a => (bs a).map (f a)) ++ (((bs a).take j).map (f a)))) ⟨u0, acc, s3 _ _ hacc, ?_⟩ (fun j H5 _ h => hG1 H5 h.1) ?_ ?_
    · rw [List.take_zero, List.map_nil, List.append_nil]
      exact Paired.mono (fun v b r => st D H H3 v b (Ud.same s3 hacc) r) pd
    · rintro j x1 H5 H6 hj ⟨u5, acc5, hacc5, pd5⟩ hy1
      obtain ⟨b, hb⟩ := get_lt hj
      refine turn1 j b x1 H5 H6 _ hb u5 ⟨acc5, hacc5⟩ hy1 fun y H7 s7 r7 => ?_
      have e7 := s7 _ _ hacc5
      have u7 : Ud D H7 (upd H7 D (.lst (acc5 ++ [y]))) := Ud.of e7
      refine ⟨acc5, e7, ?_, (u5.trans (Ud.same s7 hacc5)).trans u7, _, upd_same, ?_⟩
      · have := lenOf i a j ha
        rw [pd_len pd5]
        exact Nat.lt_of_le_of_lt this (by decide)
      · rw [take_snoc hb, List.map_append, ← List.append_assoc]
        exact pd_app (Paired.mono (fun v c r => st D H7 _ v c u7 (st D H5 H7 v c (Ud.same s7 hacc5) r)) pd5) (.cons (st D H7 _ y _ u7 r7) .nil)
    · rintro H5 ⟨u5, acc5, hacc5, pd5⟩
      refine ⟨u5.free (sm.trans s3) hD, acc5, hacc5, ?_⟩
      rw [List.take_length] at pd5
      rw [take_snoc ha, List.flatMap_append, List.flatMap_cons, List.flatMap_nil, List.append_nil]
      exact pd5
  · rintro H ⟨sm, acc, hacc, pd⟩
    rw [List.take_length] at pd
    exact k D acc H hD sm hacc pd
end
theorem pe_lcm2 {X : Cx} {elt tg iter tg1 iter1 : Expr} {scope : Scope} {own : List (Str × Nat)} {vs1 : List Nat} {pos : Pos} {wi wi1 : TI} {g g1 : TG} {te : TE} (hN : X.N.Nodup) (hi : PI X tg iter wi) (ok : BlkOk X.N X.env.scope scope own) (hv : ∀ i ∈ vs1, i ∈ own.map (·.2))
    (hg : ∀ (s : Shared) (H : Hp) (C : Addr) (cl : List (Str × Addr)) (fp : List Addr), PG (X.blk s H scope (compEnvC scope cl C X.env) fp) tg g)
    (hi1 : ∀ (s : Shared) (H : Hp) (C : Addr) (cl : List (Str × Addr)) (fp : List Addr), PI (X.blk s H scope (compEnvC scope cl C X.env) fp) tg1 iter1 wi1)
    (hg1 : ∀ (s : Shared) (H : Hp) (C : Addr) (cl : List (Str × Addr)) (fp : List Addr), PG (X.blk s H scope (compEnvC scope cl C X.env) fp) tg1 g1)
    (he : ∀ (s : Shared) (H : Hp) (C : Addr) (cl : List (Str × Addr)) (fp : List Addr), PE (X.blk s H scope (compEnvC scope cl C X.env) fp) elt te) (hc : X.calm = true := by rfl) (hs : ∀ x, foldedSetIterable iter X.env x = pure x := by intro _; rfl) (hs1 : ∀ env x, foldedSetIterable iter1 env x = pure x := by intro _ _; rfl) :
    PE X (.ListComp elt [⟨tg, iter, [], 0⟩, ⟨tg1, iter1, [], 0⟩] scope pos) (tL2 wi g wi1 g1 te (own.map (·.2)) vs1) :=
  pe_lc2 (tt := tYes) (tt1 := tYes) hc hN hi ok hv hg (fun _ _ _ _ _ => pts_nil) hi1 hg1 (fun _ _ _ _ _ => pts_nil) he hs hs1
end Jr
set_option Elab.async false
set_option linter.all false
set_option maxRecDepth 100000
set_option maxHeartbeats 4000000
/-! for statements, by typed readings. -/
namespace Jr
open PySem PySem.Spec PyProof.Rows L2
section
variable {N : Nat} {G : Hp → Prop} {it : Nat → List V} {g : TG} {tb : TS} {D : Ends} {σ : L2.St} {H1 : Hp}
/-- what a for statement asks behind its source -/
def LfG (J : It) (g : TG) (tb : TS) (D : Ends) (σ : L2.St) (H1 : Hp) : Prop := ∃ W : Nat → Nat → L2.St → Hp → Prop, (∃ m, W 0 m σ H1) ∧ ∀ i m σ H, W i m σ H →
  (J.stop i H ∧ D.nx σ H) ∨ (J.go i H ∧ ∃ N : L2.St → Hp → Prop, (∀ σ' H', N σ' H' → ∃ m', m' < m ∧ W (i + 1) m' σ' H') ∧ ∀ x H', J.yld i H x H' → g x σ H' fun σ2 H2 => tb { D with nx := N, ct := N, bk := D.nx } σ2 H2)
theorem for_prs {α β : Type} {R : Rp α} {S : Rp β} {Rl : Hp → Prop} {H0 : Hp} (hR : ∀ H v a, Rl H → R H0 v a → R H v a) (hS : ∀ H v a, Rl H → S H0 v a → S H v a) (hsm : ∀ H H', Rl H → Same H H' → Rl H') {bs : List (α × β)} (hb : Pairs R S H0 it bs) (hN : N = bs.length) (hG : ∀ H, Rl H → G H)
    (Pv : Nat → L2.St → Hp → Prop) (h0 : Pv 0 σ H1) (hP : ∀ i σ H, Pv i σ H → Rl H)
    (turn : ∀ (i : Nat) (b : α × β) (v : V) (σ : L2.St) (H H' : Hp), bs[i]? = some b → Pv i σ H → Same H H' → PairR R S H' v b → g v σ H' fun σ2 H2 => tb { D with nx := Pv (i + 1), ct := Pv (i + 1), bk := D.nx } σ2 H2)
    (hd : ∀ σ H, Pv bs.length σ H → D.nx σ H) : LfG (ItN N G it) g tb D σ H1 := by
  subst hN
  refine for_it walk_N Pv h0 (fun i σ H _ h => hG H (hP i σ H h)) ?_ hd
  rintro i x σ H H' hi hp ⟨T, rfl, hT, rfl⟩
  obtain ⟨b, hbi⟩ := get_lt hi
  obtain ⟨x, y, e, r1, r2⟩ := hb i b hbi
  have s2 : Same H (upd H T (.tup (it i))) := sm_new hT
  have rl := hsm _ _ (hP i σ H hp) s2
  exact turn i b _ σ H _ hbi hp s2 ⟨T, x, y, rfl, by rw [upd_same, e], hR _ _ _ rl r1, hS _ _ _ rl r2⟩
theorem for_trs {α β γ : Type} {R : Rp α} {S : Rp β} {U : Rp γ} {Rl : Hp → Prop} {H0 : Hp} (hR : ∀ H v a, Rl H → R H0 v a → R H v a) (hS : ∀ H v a, Rl H → S H0 v a → S H v a) (hU : ∀ H v a, Rl H → U H0 v a → U H v a) (hsm : ∀ H H', Rl H → Same H H' → Rl H') {bs : List (α × β × γ)} (hb : Trips R S U H0 it bs) (hN : N = bs.length) (hG : ∀ H, Rl H → G H)
    (Pv : Nat → L2.St → Hp → Prop) (h0 : Pv 0 σ H1) (hP : ∀ i σ H, Pv i σ H → Rl H)
    (turn : ∀ (i : Nat) (b : α × β × γ) (v : V) (σ : L2.St) (H H' : Hp), bs[i]? = some b → Pv i σ H → Same H H' → TripR R S U H' v b → g v σ H' fun σ2 H2 => tb { D with nx := Pv (i + 1), ct := Pv (i + 1), bk := D.nx } σ2 H2)
    (hd : ∀ σ H, Pv bs.length σ H → D.nx σ H) : LfG (ItN N G it) g tb D σ H1 := by
  subst hN
  refine for_it walk_N Pv h0 (fun i σ H _ h => hG H (hP i σ H h)) ?_ hd
  rintro i x σ H H' hi hp ⟨T, rfl, hT, rfl⟩
  obtain ⟨b, hbi⟩ := get_lt hi
  obtain ⟨x, y, z, e, r1, r2, r3⟩ := hb i b hbi
  have s2 : Same H (upd H T (.tup (it i))) := sm_new hT
  have rl := hsm _ _ (hP i σ H hp) s2
  exact turn i b _ σ H _ hbi hp s2 ⟨T, x, y, z, rfl, by rw [upd_same, e], hR _ _ _ rl r1, hS _ _ _ rl r2, hU _ _ _ rl r3⟩
end
def tForG (wi : TI) (g : TG) (tb : TS) : TS := fun D σ H => wi σ H fun J H1 => LfG J g tb D σ H1
theorem ps_forG {X : Cx} {tg iter : Expr} {body : List Stmt} {wi : TI} {g : TG} {tb : TS} {pos : Pos} (hp : PassesOwn (model X.prog X.w) X.A X.env X.xe) (hi : PI X tg iter wi) (hg : PG X tg g) (hb : PSs X body tb) (hc : X.calm = true := by rfl)
    (hs : ∀ x, foldedSetIterable iter X.env x = pure x := by intro _; rfl) : PS X (.For tg iter body [] pos) (tForG wi g tb) := ps_for hp hc hi hg hb hs
/-- a for over a tuple or a list, by one name -/
theorem for_tup {α : Type} {R : Rp α} (sR : Stb R) {K : PySem.W.Frag} {i0 : Nat} {tb : TS} {D : Ends} {σ : L2.St} {H1 : Hp} {a : Addr} {xs : List V} {as : List α} (ha : H1 a = some (.tup xs)) (pd : Paired (R H1) xs as)
    (Pv : Nat → L2.St → Hp → Prop) (h0 : Pv 0 σ H1) (hP : ∀ i σ H, Pv i σ H → Kt H1 H)
    (turn : ∀ (i : Nat) (b : α) (v : V) (σ : L2.St) (H : Hp), as[i]? = some b → Pv i σ H → R H v b → tb { D with nx := Pv (i + 1), ct := Pv (i + 1), bk := D.nx } (σ.set i0 (some v)) H)
    (hd : ∀ σ H, Pv as.length σ H → D.nx σ H) : LfG (Itt K a) (gName i0) tb D σ H1 := by
  have hl := pd_len pd
  refine for_it walk_tup Pv h0 (fun i σ H _ h => SqT.of (hP i σ H h _ _ ha)) ?_ (by rw [hl]; exact hd)
  rintro i x σ H H' hi hp ⟨rfl, hx⟩
  obtain ⟨b, hb, r⟩ := pd_get pd hx
  exact turn i b x σ H' hb hp (sR _ _ _ _ (hP i σ H' hp) r)
theorem for_lst {α : Type} {R : Rp α} {K : PySem.W.Frag} {i0 : Nat} {tb : TS} {D : Ends} {σ : L2.St} {H1 : Hp} {Rl : Hp → Prop} {H0 : Hp} {a : Addr} {xs : List V} {as : List α} (hR : ∀ H v a, Rl H → R H0 v a → R H v a) (ha : ∀ H, Rl H → H a = some (.lst xs)) (pd : Paired (R H0) xs as)
    (Pv : Nat → L2.St → Hp → Prop) (h0 : Pv 0 σ H1) (hP : ∀ i σ H, Pv i σ H → Rl H)
    (turn : ∀ (i : Nat) (b : α) (v : V) (σ : L2.St) (H : Hp), as[i]? = some b → Pv i σ H → R H v b → tb { D with nx := Pv (i + 1), ct := Pv (i + 1), bk := D.nx } (σ.set i0 (some v)) H)
    (hd : ∀ σ H, Pv as.length σ H → D.nx σ H) : LfG (Itl K a) (gName i0) tb D σ H1 := by
  have hl := pd_len pd
  refine for_it walk_list Pv h0 (fun i σ H _ h => SqL.of (ha H (hP i σ H h))) ?_ (by rw [hl]; exact hd)
  rintro i x σ H H' hi hp ⟨rfl, hx⟩
  obtain ⟨b, hb, r⟩ := pd_get pd hx
  exact turn i b x σ H' hb hp (hR _ _ _ (hP i σ H' hp) r)
end Jr
set_option Elab.async false
set_option linter.all false
set_option maxRecDepth 100000
set_option maxHeartbeats 4000000
/-! min of a list of tuples of nats; sorted of a list of tuples of tuples of nats. -/
namespace Jr
open PySem PySem.Spec PyProof.Rows L2
open PySem.W (alike alikeAll dataLt AllAlike Sortable EachIs)
/-- two codes can be compared -/
def Alk {α : Type} (enc : α → PyData) : Prop := ∀ a b, alike (enc a) (enc b) = true
theorem alkN : Alk (fun n : Nat => PyData.int (n : Int)) := fun a b => by simp [alike]
theorem alkAll {α : Type} {enc : α → PyData} (h : Alk enc) : ∀ as bs : List α, alikeAll (as.map enc) (bs.map enc) = true
  | [], _ => by simp [alikeAll]
  | a :: as, [] => by simp [alikeAll]
  | a :: as, b :: bs => by simp [alikeAll, h a b, alkAll h as bs]
theorem alkT {α : Type} {enc : α → PyData} (h : Alk enc) : Alk (fun as : List α => PyData.tuple (as.map enc)) := fun as bs => by
  simp only [alike]; exact alkAll h as bs
theorem dLt_irr (x : PyData) : dataLt x x = false := PyProof.Rows.lex_irrefl _
theorem dLt_neg {x y z : PyData} (h1 : dataLt x y = false) (h2 : dataLt y z = false) : dataLt x z = false := by
  cases e : dataLt x z with
  | false => rfl
  | true =>
    rcases PyProof.Rows.lex_negTrans _ (PySem.W.keyToks y) _ e with h | h
    · have : dataLt x y = true := h
      rw [h1] at this; cases this
    · have : dataLt y z = true := h
      rw [h2] at this; cases this
theorem dLt_asym {x y : PyData} (h : dataLt x y = true) : dataLt y x = false := by
  cases e : dataLt y x with
  | false => rfl
  | true =>
    have := PyProof.Rows.lex_trans _ _ _ h e
    have h2 : dataLt x x = true := this
    rw [dLt_irr] at h2; cases h2
theorem minD_spec : ∀ (xs : List PyData) (x : PyData), PySem.W.minD x xs ∈ x :: xs ∧ ∀ y ∈ x :: xs, dataLt y (PySem.W.minD x xs) = false
  | [], x => ⟨List.mem_cons_self, fun y hy => by rw [List.mem_singleton.mp hy]; exact dLt_irr x⟩
  | z :: xs, x => by
    have e : PySem.W.minD x (z :: xs) = PySem.W.minD (if dataLt z x then z else x) xs := rfl
    rw [e]
    obtain ⟨h1, h2⟩ := minD_spec xs (if dataLt z x then z else x)
    refine ⟨?_, fun y hy => ?_⟩
    · rcases List.mem_cons.mp h1 with h | h
      · rw [h]
        split
        · exact List.mem_cons_of_mem _ List.mem_cons_self
        · exact List.mem_cons_self
      · exact List.mem_cons_of_mem _ (List.mem_cons_of_mem _ h)
    · have h0 := h2 _ List.mem_cons_self
      rcases List.mem_cons.mp hy with rfl | hy
      · refine dLt_neg ?_ h0
        split
        · rename_i hzx; exact dLt_asym hzx
        · exact dLt_irr _
      · rcases List.mem_cons.mp hy with rfl | hy
        · refine dLt_neg ?_ h0
          split
          · exact dLt_irr _
          · rename_i hzx; exact Bool.eq_false_iff.mpr hzx
        · exact h2 y (List.mem_cons_of_mem _ hy)
theorem dT_inj {a b : List Nat} (h : PyData.tuple (a.map fun n : Nat => PyData.int (n : Int)) = PyData.tuple (b.map fun n : Nat => PyData.int (n : Int))) : a = b := by
  have h1 := (encT encN).eq a b
  have h2 := (encT encN).eq b b
  rw [h] at h1
  rw [h1] at h2
  have := h2.trans (decide_eq_true rfl)
  exact of_decide_eq_true this
/-- min(a list of tuples of nats) -/
structure aMinT (K : PySem.W.Frag) (xs : List V) (H : Hp) (Q : VK) : Prop where
  ex : ∃ p rows, xs = [.ref p] ∧ LstOf NatsT H (.ref p) rows ∧ rows ≠ [] ∧ ∀ v row, NatsT H v row → row ∈ rows → (∀ r ∈ rows, ¬ ((r.map fun n : Nat => (n : Int)) < (row.map fun n : Nat => (n : Int)))) → Q v H
theorem dT_lt (a b : List Nat) : dataLt (PyData.tuple (a.map fun n : Nat => PyData.int (n : Int))) (PyData.tuple (b.map fun n : Nat => PyData.int (n : Int))) = decide ((a.map fun n : Nat => (n : Int)) < (b.map fun n : Nat => (n : Int))) := by
  have h := PySem.W.dataLt_ints (a.map fun n : Nat => (n : Int)) (b.map fun n : Nat => (n : Int))
  rw [← h]
  unfold dataLt PySem.W.rowLt
  simp only [PySem.W.keyToks, List.map_map]
  rfl
theorem cr_minT {X : Cx} (hc : X.calm = true) (hu : X.A.units + 64 < cLine) : CallR X (.builtin "min") (aMinT X.K) := by
  intro pins s σ H vs us Q I r h
  obtain ⟨p, rows, e1, ⟨a, xs, e2, ha, pd⟩, hne, q⟩ := h.ex
  cases e2
  subst e1
  obtain ⟨its, rv, hl, _⟩ := I.list (SqL.of ha)
  rw [Vals.ref1 r]
  obtain ⟨r0, rr, rfl⟩ := List.exists_cons_of_ne_nil hne
  obtain ⟨as, hr⟩ := Dp.readsAll I _ _ _ (dp_all (dp_tup (K := X.K) dp_nat) pd) rv
  have hal : PySem.W.AlikeAll ((r0 :: rr).map fun as : List Nat => PyData.tuple (as.map fun n : Nat => PyData.int (n : Int))) := by
    refine ⟨fun x hx y hy => ?_, fun x hx => ?_⟩
    · obtain ⟨u, _, rfl⟩ := List.mem_map.mp hx
      obtain ⟨v, _, rfl⟩ := List.mem_map.mp hy
      exact alkT alkN u v
    · obtain ⟨u, _, rfl⟩ := List.mem_map.mp hx
      exact fun h => nomatch h
  refine PySem.W.min_list_data (I.ok.hd hc) hl.isList hr hal ?_ fun i v h' tk bs hv hrd hk => ?_
  · have h1 := encAll_dep (encT encN) (r0 :: rr)
    have h2 : PyData.depthAll ((fun as : List Nat => PyData.tuple (as.map fun n : Nat => PyData.int (n : Int))) r0 :: rr.map fun as : List Nat => PyData.tuple (as.map fun n : Nat => PyData.int (n : Int))) ≤ 2 := h1
    omega
  · have hv' : its[i]? = some v := by simpa using hv
    obtain ⟨x, hx, rx⟩ := pd_getr (F := L2.RelV) rv hv'
    obtain ⟨row, hrow, hnx⟩ := pd_get pd hx
    obtain ⟨m1, m2⟩ := minD_spec (rr.map fun as : List Nat => PyData.tuple (as.map fun n : Nat => PyData.int (n : Int))) (PyData.tuple (r0.map fun n : Nat => PyData.int (n : Int)))
    have m1' : PySem.W.minD (PyData.tuple (r0.map fun n : Nat => PyData.int (n : Int))) (rr.map fun as : List Nat => PyData.tuple (as.map fun n : Nat => PyData.int (n : Int))) ∈ (r0 :: rr).map fun as : List Nat => PyData.tuple (as.map fun n : Nat => PyData.int (n : Int)) := m1
    obtain ⟨m, hm, em⟩ := List.mem_map.mp m1'
    have I' : L2.Inv X pins σ H { s with heap := h', toks := tk } := I.kept hk
    -- the value reads as the least
    have hrx : ∃ as, Reads h' v (PyData.tuple (row.map fun n : Nat => PyData.int (n : Int))) as := Dp.reads I' _ _ _ (dp_tup (K := X.K) dp_nat _ _ _ hnx) rx
    obtain ⟨as2, hrx⟩ := hrx
    have eqd : PyData.tuple (row.map fun n : Nat => PyData.int (n : Int)) = PyData.tuple (m.map fun n : Nat => PyData.int (n : Int)) := by
      rw [← em] at hrd
      have l1 := SeqAt.readsAll_map (h := h') [PyData.tuple (row.map fun n : Nat => PyData.int (n : Int))] [v] _ (by simp [PyData.canLayAll0, (encT encN).lay row]) (.cons hrx .nil)
      have l2 := SeqAt.readsAll_map (h := h') [PyData.tuple (m.map fun n : Nat => PyData.int (n : Int))] [v] _ (by simp [PyData.canLayAll0, (encT encN).lay m]) (.cons hrd .nil)
      have := l1.symm.trans l2
      simpa using this
    have erow := dT_inj eqd
    subst erow
    refine ⟨x, H, I', rx, q x row hnx hm fun r hr => ?_⟩
    have hrm : PyData.tuple (r.map fun n : Nat => PyData.int (n : Int)) ∈ (r0 :: rr).map fun as : List Nat => PyData.tuple (as.map fun n : Nat => PyData.int (n : Int)) := List.mem_map.mpr ⟨r, hr, rfl⟩
    have := m2 (PyData.tuple (r.map fun n : Nat => PyData.int (n : Int))) hrm
    rw [← em, dT_lt] at this
    exact of_decide_eq_false this
/-- sorted(a list of parts): the parts, in some order -/
structure aSortP (K : PySem.W.Frag) (xs : List V) (H : Hp) (Q : VK) : Prop where
  ex : ∃ p ps, xs = [.ref p] ∧ LstOf PartT H (.ref p) ps ∧ (∀ P ∈ ps, P ≠ []) ∧ ∀ l ys qs, qs.Perm ps → H l = none → Paired (PartT H) ys qs → Q (.ref l) (upd H l (.lst ys))
abbrev dP : List (List Nat) → PyData := fun P => PyData.tuple (P.map fun as : List Nat => PyData.tuple (as.map fun n : Nat => PyData.int (n : Int)))
theorem each_of {H : Hp} {h : Heap} {α : Type} {R : Rp α} : ∀ {xs : List V} {us : List Value} {as : List α}, Vals xs us → Paired (R H) xs as → EachIs (fun v a => ∃ x, L2.RelV x v ∧ R H x a) us as
  | _, _, _, .nil, .nil => .nil
  | _, _, _, .cons r t, .cons p q => .cons ⟨_, r, p⟩ (each_of (h := h) t q)
theorem each_back {H : Hp} {α : Type} {R : Rp α} : ∀ {us : List Value} {as : List α}, EachIs (fun v a => ∃ x, L2.RelV x v ∧ R H x a) us as → ∃ xs, Vals xs us ∧ Paired (R H) xs as
  | _, _, .nil => ⟨[], .nil, .nil⟩
  | _, _, .cons ⟨x, r, p⟩ t => by
    obtain ⟨xs, h1, h2⟩ := each_back t
    exact ⟨x :: xs, .cons r h1, .cons p h2⟩
theorem cr_sortP {X : Cx} (hu : X.A.units + 64 < cLine) : CallR X (.builtin "sorted") (aSortP X.K) := by
  intro pins s σ H vs us Q I r h
  obtain ⟨p, ps, e1, ⟨a, xs, e2, ha, pd⟩, hne, q⟩ := h.ex
  cases e2
  subst e1
  obtain ⟨its, rv, hl, hz⟩ := I.list (SqL.of ha)
  rw [Vals.ref1 r]
  have hlen : ps.length = xs.length := (pd_len pd).symm
  have ed := each_of (h := s.heap) rv pd
  refine PySem.W.sorted_data (bs := ps) (enc := dP) hl.isList ed (ed.mono fun v b ⟨x, rx, rp⟩ => Dp.reads I _ _ _ (dp_tup (dp_tup (K := X.K) dp_nat) _ _ _ rp) rx) (AllAlike.of fun b b' => alkT (alkT alkN) b b')
    (.inl fun d hd => ?_) (by rw [hlen]; exact hz) (fun b _ => by have h3 : (dP b).depth ≤ 3 := (encT (encT encN)).dep b; omega) fun out ho he => ?_
  · obtain ⟨P, hP, rfl⟩ := List.mem_map.mp hd
    obtain ⟨x, rr, rfl⟩ := List.exists_cons_of_ne_nil (hne P hP)
    exact ⟨_, _, rfl⟩
  · obtain ⟨ys, hv, hp⟩ := each_back he
    obtain ⟨ep, he'⟩ := PyProof.Rows.sortedAll_at s.heap its out.toArray
    have hyl : ys.length ≤ sizeLine := by rw [hv.length, ho, hlen]; exact hz
    exact ⟨.ref _, upd H (s.heap.objs.size + 1) (.lst ys), I.laid (t' := s.toks) (fun _ _ => PyProof.Rows.sortedAll_old) (Nat.le_succ _) ⟨hyl, out, ep, hv, he'⟩, rfl, q _ ys _ (List.mergeSort_perm _ _) (I.hok.fresh (Nat.le_succ _)) hp⟩
theorem pe_minT {X : Cx} {K : PySem.W.Frag} {k : Nat} {e : Expr} {te : TE} {p1 pos : Pos} (T : Tx X.mg) (hc : X.calm = true) (hr : Room k X.A) (he : PE X e te) (hK : X.K = K := by rfl) (hg : Gl X "min" := by rfl) (h1 : starEach [e] X.env = (false, eval e X.env) :: starEach [] X.env := by rfl) :
    PE X (.Call (.Name "min" p1) [e] [] pos) (tCB (aMinT K) (tCons te tNil)) := by
  subst hK
  exact pe_callB (cr_minT hc (hu64 hr)) hg T.min boot_min (pa_cons he pa_nil h1) (by decide) (by decide) h1 rfl
theorem pe_sortP {X : Cx} {K : PySem.W.Frag} {k : Nat} {e : Expr} {te : TE} {p1 pos : Pos} (T : Tx X.mg) (hr : Room k X.A) (he : PE X e te) (hK : X.K = K := by rfl) (hg : Gl X "sorted" := by rfl) (h1 : starEach [e] X.env = (false, eval e X.env) :: starEach [] X.env := by rfl) :
    PE X (.Call (.Name "sorted" p1) [e] [] pos) (tCB (aSortP K) (tCons te tNil)) := by
  subst hK
  exact pe_callB (cr_sortP (hu64 hr)) hg T.sorted boot_sorted (pa_cons he pa_nil h1) (by decide) (by decide) h1 rfl
end Jr
set_option Elab.async false
set_option linter.all false
set_option maxRecDepth 100000
set_option maxHeartbeats 4000000
namespace Jr
open PySem PySem.Spec PyProof.Rows L2 PpSet
theorem rises_set {b : List Nat} (hr : Rises b) {ns : List Int} (h1 : ns.Pairwise (· < ·)) (h2 : ∀ k : Int, k ∈ ns ↔ ∃ n ∈ b, k = (n : Int)) : ns = b.map fun n : Nat => (n : Int) := by
  have p2 : (b.map fun n : Nat => (n : Int)).Pairwise (· < ·) := List.pairwise_map.mpr (hr.imp fun h => by omega)
  refine List.Perm.eq_of_pairwise (le := fun a b : Int => a < b) (fun a b _ _ h1 h2 => by omega) h1 p2 ?_
  refine (List.perm_ext_iff_of_nodup (h1.imp fun h => by omega) (p2.imp fun h => by omega)).mpr fun k => ?_
  rw [h2 k, List.mem_map]
  exact ⟨fun ⟨n, hn, e⟩ => ⟨n, hn, e.symm⟩, fun ⟨n, hn, e⟩ => ⟨n, hn, e.symm⟩⟩
theorem rises_lo : ∀ (b : List Nat) (lo m : Nat), Rises b → (∀ v ∈ b, lo ≤ v ∧ v < m) → lo ≤ m → lo + b.length ≤ m
  | [], lo, m, _, _, h => by simpa using h
  | a :: r, lo, m, hr, hb, _ => by
    obtain ⟨h1, h2⟩ := hb a List.mem_cons_self
    have := rises_lo r (a + 1) m (List.pairwise_cons.mp hr).2 (fun v hv => ⟨(List.pairwise_cons.mp hr).1 v hv, (hb v (List.mem_cons_of_mem _ hv)).2⟩) (by omega)
    rw [List.length_cons]
    omega
theorem rises_len {b : List Nat} {m : Nat} (hr : Rises b) (hb : ∀ v ∈ b, v < m) : b.length ≤ m := by
  have := rises_lo b 0 m hr (fun v hv => ⟨Nat.zero_le _, hb v hv⟩) (Nat.zero_le _)
  omega
theorem hangs_len {t b : List Nat} (h : Hangs t b) : b.length ≤ t.length + 1 := rises_len h.1 fun v hv => by have := h.2.2.1 v hv; omega
section
variable {P : Program} {w : World} {K : PySem.W.Frag} {mg : Str → Option Value} {base : Heap} {f : Addr} {fd : FuncData}
def sp_hangs : Sp := fun vs H Q _ => ∃ v u t b, vs = [v, u] ∧ NatsT H v t ∧ TreeOk t ∧ NatsT H u b ∧ Hangs t b ∧ ∀ H', Same H H' → Q (.bl true) H'
theorem k_hangs (T : Tx mg) (W : Kn P w K mg base "is_within" 2 ["thing", "low", "high"] sp_is_within)
    (F : FnP K "hangs_together" s_hangs_together f fd) (g : mg "hangs_together" = some (.ref f)) : Kn P w K mg base "hangs_together" 3 ["tree", "thing"] sp_hangs := by
  refine kn_of F g (F.ok c_hangs_together (fun vs H Q E h => ?_) (fun cdv A outer s H vs Q E hr h => ?_)) (fun _ _ _ _ _ _ us hl => match us, hl with | [_, _], _ => rfl)
  · obtain ⟨v, u, t, b, rfl, _⟩ := h
    rfl
  · obtain ⟨v, u, t, b, rfl, ht, ok, hb, hh, q⟩ := h
    have nd := c_hangs_together.nd
    have hcalm := hr.hd
    refine ⟨_, PSs.nox (pss_cons (ps_if (PW.pt (pw_or (pt_not (pt_val (pe_isi T (pv 1) T.tuple boot_tuple))) (pw_or1 (pt_cmpR (op_eqR (hu64 hr)) (pv 1) (pe_tup pa_nil) (nomark _))))) (pss_one (ps_ret pe_bl)) pss_nil)
      (pss_cons (ps_if (PW.pt (pw_or (pt_not (pt_val (pe_all T (pe_lcm (own := [("place", 2)]) (g := gName 2) nd (pi_tup (pv 1)) (blkOk_by (N := ["tree", "thing", "place", "first", "others"]) (sc := defScope s_hangs_together) (by decide +kernel)) (fun _ _ _ _ _ => pg_name (i := 2) nd rfl (.inl rfl) (.inr rfl))
          (fun _ _ _ _ _ => pe_kn W hr (pa_cons (pv 2) (pa_cons pe_int (pa_cons (pe_len T (pv 0)) pa_nil)))))))) (pw_or1 (pt_cmpR (op_neR (hu64 hr)) (pe_list T (pv 1)) (pe_sortedS (w := w) T rfl (pe_setI (w := w) T rfl (pv 1))) (nomark _))))) (pss_one (ps_ret pe_bl)) pss_nil)
      (pss_cons (ps_asg (pv 1) (pg_star (pgs_cons (pg_name (i := 3) nd rfl (.inl rfl) (.inl rfl)) (pgs_st (pg_name (i := 4) nd rfl (.inl rfl) (.inl rfl))))))
      (pss_one (ps_ret (pe_all T (pe_lcm (own := [("place", 2)]) (g := gName 2) nd (pi_list (pv 4)) (blkOk_by (N := ["tree", "thing", "place", "first", "others"]) (sc := defScope s_hangs_together) (by decide +kernel)) (fun _ _ _ _ _ => pg_name (i := 2) nd rfl (.inl rfl) (.inr rfl))
          (te := tOp (rIn K false) (tOp (rIxT K) (tVar 0) (tOp (rI0 fun i j => .int (i - j)) (tVar 2) (tC (.int 1)))) (tVar 1))
          (fun _ _ _ _ _ => pe_cmpR op_in_seq (pe_ix ix_tup (pv 0) (pe_op op_sub (pv 2) pe_int) (fun _ _ => rfl)) (pv 1) rfl)))))))), ?_⟩
    obtain ⟨ta, txs, rfl, hta, tpd⟩ := ht
    have htx := nvs_of tpd
    subst htx
    obtain ⟨ba, bxs, rfl, hba, bpd⟩ := hb
    have hbx := nvs_of bpd
    subst hbx
    have hbl := hangs_len hh
    have hb13 : b.length ≤ 12 := by have := ok.1; omega
    refine ⟨.ref ba, rfl, isi_tup hba ⟨true, rfl, ?_⟩⟩
    refine iteF ⟨.ref ba, rfl, by show 0 ≤ sizeLine; exact Nat.zero_le _, fun e0 he0 => ?_⟩
    have s1 : Same H (upd H e0 (.tup [])) := sm_new he0
    generalize hH1 : upd H e0 (.tup []) = H1 at s1
    have e01 : H1 e0 = some (.tup (nvs [])) := by rw [← hH1, upd_same]; rfl
    have hta1 := s1 _ _ hta
    have hba1 := s1 _ _ hba
    refine eq_R (R := NatsT) (S := NatsT) (encT encN) (by decide) (dp_tup dp_nat) (dp_tup dp_nat) (a := b) (b := []) ⟨ba, _, rfl, hba1, nvs_pd _⟩ ⟨e0, _, rfl, e01, nvs_pd _⟩ ⟨_, rfl, ?_⟩
    rw [decide_eq_false hh.2.1]
    refine iteF ?_
    -- all places are of the tree
    refine ⟨.ref ba, rfl, ba, rfl, ⟨_, SqT.of hba1⟩, ?_⟩
    refine lc_tupP stb_nat (Stb.d stb_bl) hba1 (nvs_pd b) (len_small (by omega)) (fun _ => true) (fun D x vx H2 Kn hacc hx s2 rx kn => ⟨rfl, ?_⟩) (fun D ys H2 hD s2 e2 p2 => ?_)
    · have rx' : vx = .int (x : Int) := rx
      subst rx'
      have hx' := hh.2.2.1 x hx
      refine ⟨_, rfl, .ref ta, rfl, ?_⟩
      refine len_tup (s2 _ _ hta1) (nvs_len t) ?_
      refine ⟨(x : Int), 0, (t.length : Int), rfl, ?_⟩
      rw [decide_eq_true (by omega)]
      exact kn _ H2 (Same.refl H2) rfl
    · refine all_ans e2 p2 ?_
      rw [map_true fun _ _ => rfl]
      have hta2 := s2 _ _ hta1
      have hba2 := s2 _ _ hba1
      refine ⟨true, rfl, ?_⟩
      refine iteF ⟨.ref ba, rfl, ?_⟩
      refine list_tup hba2 fun l hl => ?_
      have s3 : Same H2 (upd H2 l (.lst (nvs b))) := sm_new hl
      generalize hH3 : upd H2 l (.lst (nvs b)) = H3 at s3
      have e3 : H3 l = some (.lst (nvs b)) := by rw [← hH3, upd_same]
      have hta3 := s3 _ _ hta2
      have hba3 := s3 _ _ hba2
      refine ⟨.ref ba, rfl, ?_⟩
      refine ⟨⟨ba, b.map fun n : Nat => (n : Int), rfl, .inl (SqT.of (by rw [← nats_ints]; exact hba3)), by rw [List.length_map]; omega, fun sa n hsa hn => ?_⟩⟩
      rw [List.length_map] at hn
      have s4 : Same H3 (upd H3 sa (SetO w sa (fun j => decide (j ∈ b.map fun n : Nat => (n : Int))) n)) := sm_new hsa
      refine ⟨⟨sa, _, n, rfl, upd_same, by omega, fun ns pa h1 h2 h3 hpa => ?_⟩⟩
      have hns := rises_set hh.1 h1 (fun k => by rw [h2 k, decide_eq_true_eq, List.mem_map]; exact ⟨fun ⟨n, hn, e⟩ => ⟨n, hn, e.symm⟩, fun ⟨n, hn, e⟩ => ⟨n, hn, e.symm⟩⟩)
      generalize hH4 : upd H3 sa (SetO w sa (fun j => decide (j ∈ b.map fun n : Nat => (n : Int))) n) = H4 at s4 hpa
      rw [hns, ← nats_ints]
      have s5 : Same H4 (upd H4 pa (.lst (b.map fun n : Nat => V.int (n : Int)))) := sm_new hpa
      generalize hH5 : upd H4 pa (.lst (b.map fun n : Nat => V.int (n : Int))) = H5 at s5
      have e5 : H5 pa = some (.lst (nvs b)) := by rw [← hH5, upd_same]; rfl
      have s35 := s4.trans s5
      refine ne_R (R := LstOf NatR) (S := LstOf NatR) (encL encN) (by decide) (dp_lst dp_nat) (dp_lst dp_nat) (a := b) (b := b) ⟨l, _, rfl, s35 _ _ e3, nvs_pd _⟩ ⟨pa, _, rfl, e5, nvs_pd _⟩ ⟨_, rfl, ?_⟩
      rw [decide_eq_true rfl]
      refine iteF ?_
      -- first, *others
      have hta5 := s35 _ _ hta3
      have hba5 := s35 _ _ hba3
      obtain ⟨b0, br, rfl⟩ := List.exists_cons_of_ne_nil hh.2.1
      refine ⟨.ref ba, rfl, ba, .int (b0 : Int), nvs br, rfl, .inl (SqT.of hba5), fun ol hol => ?_⟩
      have s6 : Same H5 (upd H5 ol (.lst (nvs br))) := sm_new hol
      generalize hH6 : upd H5 ol (.lst (nvs br)) = H6 at s6
      have e6 : H6 ol = some (.lst (nvs br)) := by rw [← hH6, upd_same]
      have hta6 := s6 _ _ hta5
      have hba6 := s6 _ _ hba5
      refine ⟨_, _, rfl, _, _, rfl, rfl, ?_⟩
      refine ⟨.ref ol, rfl, ol, rfl, ⟨_, SqL.of e6⟩, ?_⟩
      refine lc_lstP stb_nat (Stb.d stb_bl) e6 (nvs_pd br) (len_small (by rw [List.length_cons] at hb13; omega)) (fun _ => true) (fun D x vx H7 Kn hacc hx s7 rx kn => ⟨rfl, ?_⟩) (fun D ys H7 hD s7 e7 p7 => ?_)
      · have rx' : vx = .int (x : Int) := rx
        subst rx'
        have hx0 : 0 < x := by
          have := (List.pairwise_cons.mp hh.1).1 x hx
          omega
        have hxt := hh.2.2.1 x (List.mem_cons_of_mem _ hx)
        have hpar := hh.2.2.2 x hx
        refine ⟨.ref ta, rfl, .int (x : Int), rfl, (x : Int), 1, rfl, rfl, ?_⟩
        refine ⟨ta, nvs t, ((x - 1 : Nat) : Int), .int (par t x : Int), rfl, by rw [show ((x - 1 : Nat) : Int) = (x : Int) - 1 by omega], SqT.of (s7 _ _ hta6), atI_nat (nvs_get (par_get ok hx0 hxt)), ?_⟩
        refine ⟨.ref ba, rfl, ba, nvs (b0 :: br), rfl, .inr (SqT.of (s7 _ _ hba6)), rfl, nvs_flat _, ?_⟩
        rw [if_neg (by decide), nvs_in, decide_eq_true hpar]
        exact kn _ H7 (Same.refl H7) rfl
      · refine all_ans e7 p7 ?_
        rw [map_true fun _ _ => rfl]
        exact q H7 (((((s1.trans s2).trans s3).trans s35).trans s6).trans s7)
end
end Jr
set_option Elab.async false
set_option linter.all false
set_option maxRecDepth 100000
set_option maxHeartbeats 4000000
namespace Jr
open PySem PySem.Spec PyProof.Rows L2 PpSet
/-- the set at D has changed, all else stays -/
def Us (w : World) (D : Addr) (H H' : Hp) : Prop := (∃ S n, H D = some (SetO w D S n)) ∧ ∀ c o, c ≠ D → H c = some o → H' c = some o
theorem Us.kt {w : World} {D : Addr} {H H' : Hp} (u : Us w D H H') : Kt H H' := fun a xs e => by
  obtain ⟨⟨S, n, h⟩, k⟩ := u
  exact k a _ (ne_of e h (fun z => by cases z)) e
theorem Us.trans {w : World} {D : Addr} {H H1 H2 : Hp} (u : Us w D H H1) (v : Us w D H1 H2) : Us w D H H2 := ⟨u.1, fun c o hc h => v.2 c o hc (u.2 c o hc h)⟩
theorem Us.free {w : World} {D : Addr} {H H' H'' : Hp} (u : Us w D H' H'') (s : Same H H') (h : H D = none) : Same H H'' := fun c o e => u.2 c o (fun q => by rw [q, h] at e; cases e) (s c o e)
section
variable {w : World} {J : It} {n : Nat} {G : Hp → Prop} {Y : Nat → Hp → V → Hp → Prop} {g g1 : TG} {wi1 : TI} {te : TE} {vs vs1 : List Nat} {σ : L2.St} {H1 : Hp} {Q : VK}
def Sc2G (w : World) (J : It) (g : TG) (wi1 : TI) (g1 : TG) (te : TE) (vs vs1 : List Nat) (σ : L2.St) (H1 : Hp) (Q : VK) : Prop := ∀ D, H1 D = none → ∃ W : Nat → Nat → Hp → Prop, (∃ m, W 0 m (upd H1 D (SetO w D (fun _ => false) 0))) ∧ ∀ i m H, W i m H →
  (J.stop i H ∧ Q (.ref D) H) ∨ (J.go i H ∧ ∃ Nx : Hp → Prop, (∀ H', Nx H' → ∃ m', m' < m ∧ W (i + 1) m' H') ∧ ∀ x H', J.yld i H x H' → g x (wipe σ vs) H' fun σ2 H2 => wipe σ2 vs = wipe σ vs ∧ tYes σ2 H2 fun b H3 =>
    if b = true then wi1 σ2 H3 fun J1 H4 => ∃ W1 : Nat → Nat → Hp → Prop, (∃ m, W1 0 m H4) ∧ ∀ j k H, W1 j k H →
      (J1.stop j H ∧ Nx H) ∨ (J1.go j H ∧ ∃ Nx1 : Hp → Prop, (∀ H', Nx1 H' → ∃ k', k' < k ∧ W1 (j + 1) k' H') ∧ ∀ x H', J1.yld j H x H' → g1 x (wipe σ2 vs1) H' fun σ3 H5 => wipe σ3 vs1 = wipe σ2 vs1 ∧ tYes σ3 H5 fun b H6 =>
        if b = true then te σ3 H6 fun y H7 => ∃ (c : Int) (S : Int → Bool) (n : Nat), y = .int c ∧ H7 D = some (SetO w D S n) ∧ n + 1 < scanBound ∧ Nx1 (upd H7 D (SetO w D (fun j => S j || decide (j = c)) (if S c = true then n else n + 1))) else Nx1 H6)
    else Nx H3)
def tS2 (w : World) (wi : TI) (g : TG) (wi1 : TI) (g1 : TG) (te : TE) (vs vs1 : List Nat) : TE := fun σ H Q => wi σ H fun J H1 => Sc2G w J g wi1 g1 te vs vs1 σ H1 Q
theorem sc2_map {α β : Type} (wk : Walk J n G Y) (as : List α) (hn : n = as.length) (bs : α → List β) (f : α → β → Int) (hsz : (as.flatMap fun a => (bs a).map (f a)).length < 4000)
    (hG : ∀ H, Same H1 H → G H)
    (turn : ∀ (D : Addr) (i : Nat) (a : α) (x : V) (H H' : Hp) (KI : L2.St → It → Hp → Prop), H1 D = none → (∃ S n, H D = some (SetO w D S n)) → as[i]? = some a → Same H1 H → Y i H x H' →
      (∀ (σ2 : L2.St) (H3 : Hp) (J1 : It) (n1 : Nat) (G1 : Hp → Prop) (Y1 : Nat → Hp → V → Hp → Prop), Walk J1 n1 G1 Y1 → n1 = (bs a).length → Same H H3 → (∀ H4, Us w D H3 H4 → G1 H4) →
        (∀ (j : Nat) (b : β) (x1 : V) (H5 H6 : Hp) (Kn : V → Hp → Prop), (bs a)[j]? = some b → Us w D H3 H5 → Y1 j H5 x1 H6 → (∀ H7, Same H5 H7 → Kn (.int (f a b)) H7) →
          g1 x1 (wipe σ2 vs1) H6 fun σ3 H7 => wipe σ3 vs1 = wipe σ2 vs1 ∧ te σ3 H7 Kn) → KI σ2 J1 H3) →
      g x (wipe σ vs) H' fun σ2 H2 => wipe σ2 vs = wipe σ vs ∧ wi1 σ2 H2 (KI σ2))
    (k : ∀ D S m H2, H1 D = none → Same H1 H2 → H2 D = some (SetO w D S m) → (∀ z, S z = true ↔ z ∈ as.flatMap fun a => (bs a).map (f a)) → Q (.ref D) H2) : Sc2G w J g wi1 g1 te vs vs1 σ H1 Q := by
  intro D hD
  subst hn
  have lenOf : ∀ (i : Nat) (a : α) (j : Nat), as[i]? = some a → (((as.take i).flatMap fun a => (bs a).map (f a)) ++ (((bs a).take j).map (f a))).length < 4000 := by
    intro i a j ha
    refine Nat.lt_of_le_of_lt ?_ hsz
    obtain ⟨hi, e⟩ := List.getElem?_eq_some_iff.mp ha
    have e1 : as = as.take i ++ (a :: as.drop (i + 1)) := by rw [← e, ← List.drop_eq_getElem_cons hi, List.take_append_drop]
    conv => rhs; rw [e1]
    rw [List.flatMap_append, List.flatMap_cons, List.length_append, List.length_append, List.length_append, List.length_map, List.length_map, List.length_take]
    omega
  refine w_it wk (fun i H => Same H1 H ∧ ∃ S m, H D = some (SetO w D S m) ∧ (∀ z, S z = true ↔ z ∈ (as.take i).flatMap fun a => (bs a).map (f a)) ∧ m ≤ ((as.take i).flatMap fun a => (bs a).map (f a)).length) ⟨sm_new hD, _, 0, upd_same, fun z => by simp, Nat.zero_le _⟩ (fun i H _ h => hG H h.1) ?_ ?_
  · rintro i x H H' hi ⟨sm, S, m, hS, hmem, hm⟩ hy
    obtain ⟨a, ha⟩ := get_lt hi
    refine turn D i a x H H' (fun σ2 J1 H4 => ∃ W1 : Nat → Nat → Hp → Prop, (∃ m, W1 0 m H4) ∧ ∀ j k H, W1 j k H →
      (J1.stop j H ∧ _) ∨ (J1.go j H ∧ ∃ Nx1 : Hp → Prop, (∀ H', Nx1 H' → ∃ k', k' < k ∧ W1 (j + 1) k' H') ∧ ∀ x H', J1.yld j H x H' → g1 x (wipe σ2 vs1) H' fun σ3 H5 => wipe σ3 vs1 = wipe σ2 vs1 ∧ tYes σ3 H5 fun b H6 =>
        if b = true then te σ3 H6 fun y H7 => ∃ (c : Int) (S : Int → Bool) (n : Nat), y = .int c ∧ H7 D = some (SetO w D S n) ∧ n + 1 < scanBound ∧ Nx1 (upd H7 D (SetO w D (fun j => S j || decide (j = c)) (if S c = true then n else n + 1))) else Nx1 H6)) hD ⟨S, m, hS⟩ ha sm hy ?_
    intro σ2 H3 J1 n1 G1 Y1 w1 hn1 s3 hG1 turn1
    subst hn1
    have u0 : Us w D H3 H3 := ⟨⟨S, m, s3 _ _ hS⟩, fun _ _ _ e => e⟩
    refine w_it w1 (fun j H5 => Us w D H3 H5 ∧ ∃ S m, H5 D = some (SetO w D S m) ∧ (∀ z, S z = true ↔ z ∈ ((as.take i).flatMap fun a => (bs a).map (f a)) ++ (((bs a).take j).map (f a))) ∧ m ≤ (((as.take i).flatMap fun a => (bs a).map (f a)) ++ (((bs a).take j).map (f a))).length) ⟨u0, S, m, s3 _ _ hS, ?_, ?_⟩ (fun j H5 _ h => hG1 H5 h.1) ?_ ?_
    · intro z
      rw [List.take_zero, List.map_nil, List.append_nil]
      exact hmem z
    · rw [List.take_zero, List.map_nil, List.append_nil]
      exact hm
    · rintro j x1 H5 H6 hj ⟨u5, S5, m5, hS5, hmem5, hm5⟩ hy1
      obtain ⟨b, hb⟩ := get_lt hj
      refine turn1 j b x1 H5 H6 _ hb u5 hy1 fun H7 s7 => ?_
      have e7 := s7 _ _ hS5
      have u7 : Us w D H7 (upd H7 D (SetO w D (fun j => S5 j || decide (j = f a b)) (if S5 (f a b) = true then m5 else m5 + 1))) := ⟨⟨_, _, e7⟩, fun c o hc h => by rw [upd_ne hc]; exact h⟩
      refine ⟨f a b, S5, m5, rfl, e7, ?_, (u5.trans ⟨⟨_, _, hS5⟩, fun c o _ h => s7 c o h⟩).trans u7, _, _, upd_same, fun z => ?_, ?_⟩
      · have := lenOf i a j ha
        unfold scanBound; omega
      · rw [take_snoc hb, List.map_append, ← List.append_assoc, List.mem_append, Bool.or_eq_true, decide_eq_true_eq, hmem5 z]
        simp
      · rw [take_snoc hb, List.map_append, ← List.append_assoc, List.length_append]
        simp only [List.map_cons, List.map_nil, List.length_cons, List.length_nil]
        split <;> omega
    · rintro H5 ⟨u5, S5, m5, hS5, hmem5, hm5⟩
      rw [List.take_length] at hmem5 hm5
      refine ⟨u5.free (sm.trans s3) hD, S5, m5, hS5, ?_, ?_⟩
      · rw [take_snoc ha, List.flatMap_append, List.flatMap_cons, List.flatMap_nil, List.append_nil]
        exact hmem5
      · rw [take_snoc ha, List.flatMap_append, List.flatMap_cons, List.flatMap_nil, List.append_nil]
        exact hm5
  · rintro H ⟨sm, S, m, hS, hmem, hm⟩
    rw [List.take_length] at hmem
    exact k D S m H hD sm hS hmem
end
theorem pe_scm2 {X : Cx} {w : World} {elt tg iter tg1 iter1 : Expr} {scope : Scope} {own : List (Str × Nat)} {vs1 : List Nat} {pos : Pos} {wi wi1 : TI} {g g1 : TG} {te : TE} (hN : X.N.Nodup) (hi : PI X tg iter wi) (ok : BlkOk X.N X.env.scope scope own) (hv : ∀ i ∈ vs1, i ∈ own.map (·.2))
    (hg : ∀ (s : Shared) (H : Hp) (C : Addr) (cl : List (Str × Addr)) (fp : List Addr), PG (X.blk s H scope (compEnvC scope cl C X.env) fp) tg g)
    (hi1 : ∀ (s : Shared) (H : Hp) (C : Addr) (cl : List (Str × Addr)) (fp : List Addr), PI (X.blk s H scope (compEnvC scope cl C X.env) fp) tg1 iter1 wi1)
    (hg1 : ∀ (s : Shared) (H : Hp) (C : Addr) (cl : List (Str × Addr)) (fp : List Addr), PG (X.blk s H scope (compEnvC scope cl C X.env) fp) tg1 g1)
    (he : ∀ (s : Shared) (H : Hp) (C : Addr) (cl : List (Str × Addr)) (fp : List Addr), PE (X.blk s H scope (compEnvC scope cl C X.env) fp) elt te) (hw : X.w = w := by rfl) (hc : X.calm = true := by rfl) (hs : ∀ x, foldedSetIterable iter X.env x = pure x := by intro _; rfl) (hs1 : ∀ env x, foldedSetIterable iter1 env x = pure x := by intro _ _; rfl) :
    PE X (.SetComp elt [⟨tg, iter, [], 0⟩, ⟨tg1, iter1, [], 0⟩] scope pos) (tS2 w wi g wi1 g1 te (own.map (·.2)) vs1) := by
  subst hw
  exact pe_sc2 (tt := tYes) (tt1 := tYes) hc hN hi ok hv hg (fun _ _ _ _ _ => pts_nil) hi1 hg1 (fun _ _ _ _ _ => pts_nil) he hs hs1
/-! ### a set of small ints has few -/
theorem few_ints {l : List Int} (hn : l.Nodup) (hb : ∀ k ∈ l, 0 ≤ k ∧ k < 12) : l.length ≤ 12 := by
  have h : (l.map Int.toNat).Nodup := by
    refine List.pairwise_map.mpr (List.Pairwise.imp_of_mem (fun ha hb' hab e => hab ?_) hn)
    have := hb _ ha
    have := hb _ hb'
    omega
  have hs := List.mergeSort_perm (l.map Int.toNat) (fun a b => decide (a ≤ b))
  have h2 := hs.nodup_iff.mpr h
  have h3 := List.pairwise_mergeSort (le := fun a b : Nat => decide (a ≤ b)) (fun a b c h1 h2 => by simp at *; omega) (fun a b => by simp; omega) (l.map Int.toNat)
  have h4 : Rises ((l.map Int.toNat).mergeSort fun a b => decide (a ≤ b)) := by
    refine (h3.and h2).imp fun ⟨h1, h2⟩ => ?_
    have := of_decide_eq_true h1
    omega
  have h5 := rises_len h4 (m := 12) fun v hv => by
    obtain ⟨k, hk, e⟩ := List.mem_map.mp (hs.mem_iff.mp hv)
    have := hb k hk
    omega
  rw [hs.length_eq, List.length_map] at h5
  exact h5
/-- a set of one int united with a set of small ints -/
structure aOr (w : World) (x y : V) (H : Hp) (Q : VK) : Prop where
  ex : ∃ (a b : Addr) (k m : Nat) (S1 S : Int → Bool), x = .ref a ∧ y = .ref b ∧ k < 12 ∧ (∀ z, S z = true → 0 ≤ z ∧ z < 12) ∧ a ≠ b ∧ H a = some (SetO w a S1 1) ∧ (∀ j, S1 j = decide (j = (k : Int))) ∧ H b = some (SetO w b S m) ∧
    ∀ p n, H p = none → n ≤ 13 → Q (.ref p) (upd H p (SetO w p (fun j => decide (j = (k : Int)) || S j) n))
theorem op_orS {X : Cx} {w : World} (hw : X.w = w := by rfl) : OpR X (binaryOp .BitOr) (aOr w) := by
  subst hw
  intro pins s σ H x y v u Q I rx ry h
  obtain ⟨a, b, k, m, S1, S, ex, ey, hk, hm, hne, ha, hS1, hb, q⟩ := h.ex
  have R := setO_get I hb
  have hm13 : m < 13 := by
    obtain ⟨o, es, ep, t, ho, hex, hd, g, nd, hmem, hb', hf, hn, hr, hl⟩ := R
    have := few_ints nd fun z hz => hm z ((hmem z).mpr hz)
    rw [List.length_map, Array.length_toList, hn] at this
    omega
  exact op_orI pins s σ H x y v u Q I rx ry ⟨a, b, k, m, S1, S, ex, ey, hk, hm13, hne, ha, hS1, hb, fun p n hp hn => q p n hp (by omega)⟩
end Jr
set_option Elab.async false
set_option linter.all false
set_option maxRecDepth 100000
set_option maxHeartbeats 4000000
namespace Jr
open PySem PySem.Spec PyProof.Rows L2 PpSet
theorem pe_set1w {X : Cx} {w : World} {e : Expr} {te : TE} {pos : Pos} (he : PE X e te) (hcd : PySem.W.kdsCode X.K X.env.code = true) (hw : X.w = w := by rfl) (hs : starEach [e] X.env = [(false, eval e X.env)] := by rfl) : PE X (.Set [e] 0 pos) (tSet1 w te) := by
  subst hw; exact pe_set1 he hcd hs
theorem dist_le_add (t : List Nat) : ∀ x y, dist t x y ≤ x + y := by
  refine two_ind t (fun x => by rw [dist_self]; omega) (fun x y h ih => ?_) (fun x y h ih => ?_)
  · rw [dist_gt h]
    have := par_lt t (v := x) (by omega)
    omega
  · rw [dist_lt h]
    have := par_lt t (v := y) (by omega)
    omega
theorem flat_len {α β : Type} {f : α → List β} {m : Nat} : ∀ {l : List α}, (∀ a ∈ l, (f a).length ≤ m) → (l.flatMap f).length ≤ l.length * m
  | [], _ => by simp
  | a :: l, h => by
    rw [List.flatMap_cons, List.length_append, List.length_cons, Nat.add_mul, Nat.one_mul]
    have h1 := h a List.mem_cons_self
    have h2 := flat_len (l := l) fun x hx => h x (List.mem_cons_of_mem _ hx)
    omega
/-- strictly rising small ints are nats -/
theorem ints_nats {ns : List Int} (h : ∀ k ∈ ns, 0 ≤ k) : ns = (ns.map Int.toNat).map fun n : Nat => (n : Int) := by
  rw [List.map_map]
  conv => lhs; rw [← List.map_id ns]
  refine List.map_congr_left fun k hk => ?_
  have := h k hk
  show k = ((k.toNat : Nat) : Int)
  omega
section
variable {P : Program} {w : World} {K : PySem.W.Frag} {mg : Str → Option Value} {base : Heap} {f : Addr} {fd : FuncData}
def sp_around : Sp := fun vs H Q _ => ∃ v u t x r, vs = [v, u] ∧ NatsT H v t ∧ TreeOk t ∧ NatsT H u (x :: r) ∧ r.length ≤ 60 ∧ (∀ y ∈ x :: r, y ≤ t.length) ∧
  ∀ u' H' b, Same H H' → NatsT H' u' b → Rises b → (∀ z, z ∈ b ↔ ∃ y ∈ x :: r, z ∈ path t x y) → Q u' H'
theorem k_around (T : Tx mg) (W : Kn P w K mg base "steps_between" 2 ["tree", "one", "other"] sp_steps)
    (F : FnP K "branch_around" s_branch_around f fd) (g : mg "branch_around" = some (.ref f)) : Kn P w K mg base "branch_around" 3 ["tree", "some"] sp_around := by
  refine kn_of F g (okC F c_branch_around (fun vs H Q E h => ?_) (fun cdv A outer s H vs Q E hcd hr h => ?_)) (fun _ _ _ _ _ _ us hl => match us, hl with | [_, _], _ => rfl)
  · obtain ⟨v, u, t, x, r, rfl, _⟩ := h
    rfl
  · obtain ⟨v, u, t, x, r, rfl, ht, ok, hu, hrl, hb, q⟩ := h
    have nd := c_branch_around.nd
    refine ⟨_, PSs.nox (pss_cons (ps_asg (pv 1) (pg_star (pgs_cons (pg_name (i := 2) nd rfl (.inr rfl) (.inl rfl)) (pgs_st (pg_name (i := 3) nd rfl (.inl rfl) (.inl rfl))))))
      (pss_one (ps_ret (pe_tuple T (pe_sortedS (w := w) T rfl (pe_op (op_orS (w := w)) (pe_set1w (w := w) (pv 2) hcd)
        (pe_scm2 (w := w) (own := [("place", 4), ("step", 5)]) (vs1 := [5]) (g := gName 4) (g1 := gName 5) (wi1 := iList K (tCall sp_steps [] E0 (tCons (tVar 0) (tCons (tVar 2) (tCons (tVar 4) tNil))))) (te := tVar 5) nd (pi_list (pv 3)) (blkOk_by (N := ["tree", "some", "first", "others", "place", "step"]) (sc := defScope s_branch_around) (by decide +kernel)) (by decide)
          (fun _ _ _ _ _ => pg_name (i := 4) nd rfl (.inl rfl) (.inr rfl))
          (fun _ _ _ _ _ => pi_list (pe_kn W hr (pa_cons (pv 0) (pa_cons (pv 2) (pa_cons (pv 4) pa_nil)))))
          (fun _ _ _ _ _ => pg_name (i := 5) nd rfl (.inl rfl) (.inr rfl))
          (fun _ _ _ _ _ => pv 5)))))))), ?_⟩
    obtain ⟨ba, bxs, rfl, hba, bpd⟩ := hu
    have hbx := nvs_of bpd
    subst hbx
    have hx12 : x < 12 := by have := ok.1; have := hb x List.mem_cons_self; omega
    refine ⟨.ref ba, rfl, ba, .int (x : Int), nvs r, rfl, .inl (SqT.of hba), fun ol hol => ?_⟩
    have s1 : Same H (upd H ol (.lst (nvs r))) := sm_new hol
    generalize hH1 : upd H ol (.lst (nvs r)) = H1 at s1
    have e1 : H1 ol = some (.lst (nvs r)) := by rw [← hH1, upd_same]
    refine ⟨_, _, rfl, _, _, rfl, rfl, ?_⟩
    -- {first}
    intro D1 hD1
    have s2 : Same H1 (upd H1 D1 (SetO w D1 (fun _ => false) 0)) := sm_new hD1
    refine ⟨.int (x : Int), rfl, (x : Int), rfl, upd_same, ?_⟩
    have s3 : Same H1 (upd (upd H1 D1 (SetO w D1 (fun _ => false) 0)) D1 (SetO w D1 (fun j => false || decide (j = (x : Int))) 1)) := fun c o h => by
      rw [upd_ne (ne_of_none h hD1), upd_ne (ne_of_none h hD1)]; exact h
    generalize hH3 : upd (upd H1 D1 (SetO w D1 (fun _ => false) 0)) D1 (SetO w D1 (fun j => false || decide (j = (x : Int))) 1) = H3 at s3
    have eD1 : H3 D1 = some (SetO w D1 (fun j => false || decide (j = (x : Int))) 1) := by rw [← hH3, upd_same]
    have e3 := s3 _ _ e1
    have ht3 := stb_nats _ _ _ _ (kt (s1.trans s3)) ht
    refine ⟨.ref ol, rfl, ol, rfl, ⟨_, SqL.of e3⟩, ?_⟩
    have hpl : ∀ y ∈ r, (path t x y).length ≤ 30 := fun y hy => by
      rw [path_len]
      have := dist_le_add t x y
      have := hb y (List.mem_cons_of_mem _ hy)
      have := ok.1
      omega
    refine sc2_map (w := w) walk_list r (nvs_len r) (fun y => path t x y) (fun _ z => (z : Int)) ?_ (fun H4 s4 => SqL.of (s4 _ _ e3)) ?_ ?_
    · have := flat_len (l := r) (f := fun y => (path t x y).map fun z : Nat => (z : Int)) (m := 30) (fun y hy => by rw [List.length_map]; exact hpl y hy)
      omega
    · rintro D i y vy H4 H4' KI hD hS hy s4 ⟨rfl, hvy⟩ kI
      rw [nvs_get hy] at hvy
      cases hvy
      refine ⟨rfl, ?_⟩
      have ht4 := stb_nats _ _ _ _ (kt s4) ht3
      have hyr : y ∈ r := List.mem_of_getElem? hy
      refine ⟨_, rfl, _, rfl, _, rfl, v, t, x, y, rfl, ht4, ok, hb x List.mem_cons_self, hb y (List.mem_cons_of_mem _ hyr), fun l H5 s5 n5 e5 => ?_⟩
      refine ⟨l, rfl, ⟨_, SqL.of e5⟩, ?_⟩
      refine kI _ H5 _ _ _ _ walk_list (nvs_len _) s5 (fun H6 u6 => SqL.of (u6.2 l _ (fun e => ?_) e5)) ?_
      · obtain ⟨S, m, hS⟩ := hS
        rw [e, hS] at n5
        cases n5
      · rintro j z vz H6 H7 Kn hz u6 ⟨rfl, hvz⟩ kn
        rw [nvs_get hz] at hvz
        cases hvz
        exact ⟨rfl, _, rfl, kn H7 (Same.refl H7)⟩
    · intro D S m H4 hD s4 eD hmem
      have hDD : D1 ≠ D := fun e => by rw [← e, eD1] at hD; cases hD
      have hmem2 : ∀ z, S z = true ↔ ∃ y ∈ r, ∃ n ∈ path t x y, (n : Int) = z := fun z => by
        rw [hmem z, List.mem_flatMap]
        exact ⟨fun ⟨y, hy, h⟩ => ⟨y, hy, List.mem_map.mp h⟩, fun ⟨y, hy, h⟩ => ⟨y, hy, List.mem_map.mpr h⟩⟩
      refine ⟨⟨D1, D, x, m, _, S, rfl, rfl, hx12, fun z hz => ?_, hDD, s4 _ _ eD1, fun j => by simp, eD, fun p n hp hn => ?_⟩⟩
      · obtain ⟨y, hy, n, hn, e⟩ := (hmem2 z).mp hz
        have h1 := mem_path_le hn
        have h2 := hb x List.mem_cons_self
        have h3 := hb y (List.mem_cons_of_mem _ hy)
        have := ok.1
        omega
      · have s5 : Same H4 (upd H4 p (SetO w p (fun j => decide (j = (x : Int)) || S j) n)) := sm_new hp
        generalize hH5 : upd H4 p (SetO w p (fun j => decide (j = (x : Int)) || S j) n) = H5 at s5
        refine ⟨⟨p, _, n, rfl, by rw [← hH5, upd_same], by omega, fun ns pa h1 h2 h3 hpa => ?_⟩⟩
        have s6 : Same H5 (upd H5 pa (.lst (ns.map V.int))) := sm_new hpa
        have hmem3 : ∀ z : Int, z ∈ ns ↔ ∃ y ∈ x :: r, ∃ n ∈ path t x y, (n : Int) = z := fun z => by
          rw [h2 z, Bool.or_eq_true, decide_eq_true_eq, hmem2 z]
          constructor
          · rintro (e | ⟨y, hy, h⟩)
            · exact ⟨x, List.mem_cons_self, x, path_left, e.symm⟩
            · exact ⟨y, List.mem_cons_of_mem _ hy, h⟩
          · rintro ⟨y, hy, n, hn, e⟩
            rcases List.mem_cons.mp hy with rfl | hy
            · rw [path_self, List.mem_singleton] at hn
              left; rw [← e, hn]
            · exact .inr ⟨y, hy, n, hn, e⟩
        have hnn : ∀ k ∈ ns, 0 ≤ k := fun k hk => by
          obtain ⟨y, _, n, _, e⟩ := (hmem3 k).mp hk
          omega
        have hb' := ints_nats hnn
        generalize hbb : ns.map Int.toNat = b at hb'
        refine tuple_lst upd_same fun ta hta => ?_
        have s7 := sm_new (H := upd H5 pa (.lst (ns.map V.int))) (o := .tup (ns.map V.int)) hta
        refine q _ _ b ((((((s1.trans s3).trans s4).trans s5).trans s6).trans s7)) ⟨ta, _, rfl, upd_same, ?_⟩ ?_ fun z => ?_
        · rw [hb', ← nats_ints]
          exact nvs_pd b
        · rw [hb'] at h1
          exact (List.pairwise_map.mp h1).imp fun h => by omega
        · have := hmem3 (z : Int)
          constructor
          · intro hz
            have : (z : Int) ∈ ns := by rw [hb']; exact List.mem_map.mpr ⟨z, hz, rfl⟩
            obtain ⟨y, hy, n, hn, e⟩ := (hmem3 z).mp this
            have : n = z := by omega
            exact ⟨y, hy, this ▸ hn⟩
          · rintro ⟨y, hy, hz⟩
            have := (hmem3 (z : Int)).mpr ⟨y, hy, z, hz, rfl⟩
            rw [hb'] at this
            obtain ⟨n, hn, e⟩ := List.mem_map.mp this
            have : n = z := by omega
            exact this ▸ hn
end
end Jr
set_option Elab.async false
set_option linter.all false
set_option maxRecDepth 100000
set_option maxHeartbeats 4000000
namespace Jr
open PySem PySem.Spec PyProof.Rows L2
theorem lex3 {a b c a' b' c' : Int} (h : ¬ ([a, b, c] < [a', b', c'])) : a' ≤ a := by
  refine Int.not_lt.mp fun hlt => h ?_
  exact List.Lex.rel hlt
theorem gaps_row {t : List Nat} {x : Nat} (h : x ≤ t.length) : (gapsM t)[x]? = some ((List.range (t.length + 1)).map fun y => dist t x y) := by
  unfold gapsM
  rw [List.getElem?_map, List.getElem?_range (by omega)]; rfl
theorem gaps_at {t : List Nat} {x y : Nat} (h : y ≤ t.length) : ((List.range (t.length + 1)).map fun y => dist t x y)[y]? = some (dist t x y) := by
  rw [List.getElem?_map, List.getElem?_range (by omega)]; rfl
section
variable {P : Program} {w : World} {K : PySem.W.Frag} {mg : Str → Option Value} {base : Heap} {f : Addr} {fd : FuncData}
def sp_least : Sp := fun vs H Q _ => ∃ m a b t A B, vs = [m, a, b] ∧ MatR H m (gapsM t) ∧ NatsT H a A ∧ NatsT H b B ∧ A ≠ [] ∧ B ≠ [] ∧ (∀ x ∈ A, x ≤ t.length) ∧ (∀ x ∈ B, x ≤ t.length) ∧ A.length ≤ 20 ∧ B.length ≤ 20 ∧
  ∀ v H' x y, Same H H' → NatsT H' v [gap t A B, x, y] → x ∈ A → y ∈ B → dist t x y = gap t A B → Q v H'
theorem k_least (T : Tx mg) (F : FnP K "least_gap" s_least_gap f fd) (g : mg "least_gap" = some (.ref f)) : Kn P w K mg base "least_gap" 1 ["rows", "one", "other"] sp_least := by
  refine kn_of F g (F.ok c_least_gap (fun vs H Q E h => ?_) (fun cdv A outer s H vs Q E hr h => ?_)) (fun _ _ _ _ _ _ us hl => match us, hl with | [_, _, _], _ => rfl)
  · obtain ⟨m, a, b, t, A, B, rfl, _⟩ := h
    rfl
  · obtain ⟨m, a, b, t, AA, B, rfl, hm, ha, hb, hA, hB, hAt, hBt, hAl, hBl, q⟩ := h
    have nd := c_least_gap.nd
    refine ⟨_, PSs.nox (pss_one (ps_ret (pe_minT T rfl hr (pe_lcm2 (own := [("here", 3), ("there", 4)]) (vs1 := [4]) (g := gName 3) (g1 := gName 4) (wi1 := iTup K (tVar 2))
        (te := tTup (tCons (tOp (rIxL K) (tOp (rIxL K) (tVar 0) (tVar 3)) (tVar 4)) (tCons (tVar 3) (tCons (tVar 4) tNil))))
        nd (pi_tup (pv 1)) (blkOk_by (N := ["rows", "one", "other", "here", "there"]) (sc := defScope s_least_gap) (by decide +kernel)) (by decide)
        (fun _ _ _ _ _ => pg_name (i := 3) nd rfl (.inl rfl) (.inr rfl)) (fun _ _ _ _ _ => pi_tup (pv 2)) (fun _ _ _ _ _ => pg_name (i := 4) nd rfl (.inl rfl) (.inr rfl))
        (fun _ _ _ _ _ => pe_tup (pa_cons (pe_ix ix_list (pe_ix ix_list (pv 0) (pv 3) (fun _ _ => rfl)) (pv 4) (fun _ _ => rfl)) (pa_cons (pv 3) (pa_cons (pv 4) pa_nil)))))))), ?_⟩
    obtain ⟨l, rows, rfl, hl, hrows⟩ := hm
    obtain ⟨pa, xa, rfl, hpa, pda⟩ := ha
    obtain ⟨pb, xb, rfl, hpb, pdb⟩ := hb
    have hxa := nvs_of pda
    have hxb := nvs_of pdb
    subst hxa hxb
    refine ⟨.ref pa, rfl, pa, rfl, ⟨_, SqT.of hpa⟩, ?_⟩
    refine lc2_map walk_tup AA (nvs_len AA) (fun _ => B) (fun x y => [dist t x y, x, y]) ?_ (Stb.d stb_nats) (fun H' s' => SqT.of (s' _ _ hpa)) ?_ ?_
    · have := flat_len (l := AA) (f := fun x => B.map fun y => [dist t x y, x, y]) (m := 20) (fun x _ => by rw [List.length_map]; exact hBl)
      omega
    · rintro D i x vx H2 H2' KI hD hacc hx s2 ⟨rfl, hvx⟩ kI
      rw [nvs_get hx] at hvx
      cases hvx
      have hxm : x ∈ AA := List.mem_of_getElem? hx
      refine ⟨rfl, .ref pb, rfl, pb, rfl, ⟨_, SqT.of (s2 _ _ hpb)⟩, ?_⟩
      refine kI _ H2' _ _ _ _ walk_tup (nvs_len B) (Same.refl _) (fun H4 u4 => SqT.of (u4.kt _ _ (s2 _ _ hpb))) ?_
      rintro j y vy H5 H6 Kn hy u5 hacc5 ⟨rfl, hvy⟩ kn
      rw [nvs_get hy] at hvy
      cases hvy
      have hym : y ∈ B := List.mem_of_getElem? hy
      have hDl : ∀ c o, c ≠ D → H2' c = some o → H6 c = some o := u5.2
      have hlD : l ≠ D := fun e => by
        have := s2 _ _ hl
        rw [e] at hl
        rw [hl] at hD; cases hD
      obtain ⟨xr, hxr, ⟨rq, rfl, hrq⟩⟩ := pd_getr hrows (gaps_row (hAt x hxm))
      have hrqD : rq ≠ D := fun e => by rw [e] at hrq; rw [hrq] at hD; cases hD
      refine ⟨rfl, ?_⟩
      refine ⟨.ref l, rfl, .int (x : Int), rfl, l, rows, (x : Int), .ref rq, rfl, rfl, SqL.of (hDl _ _ hlD (s2 _ _ hl)), atI_nat hxr, ?_⟩
      refine ⟨.int (y : Int), rfl, rq, _, (y : Int), .int (dist t x y : Int), rfl, rfl, SqL.of (hDl _ _ hrqD (s2 _ _ hrq)), atI_nat (nvs_get (gaps_at (hBt y hym))), ?_⟩
      refine ⟨_, rfl, _, rfl, by show 3 ≤ sizeLine; decide, fun T hT => ?_⟩
      exact kn _ _ (sm_new hT) ⟨T, _, rfl, upd_same, .cons rfl (.cons rfl (.cons rfl .nil))⟩
    · intro D ys H2 hD s2 e2 p2
      refine ⟨⟨D, _, rfl, ⟨D, ys, rfl, e2, p2⟩, ?_, fun v row hv hrow hmin => ?_⟩⟩
      · obtain ⟨a0, ar, rfl⟩ := List.exists_cons_of_ne_nil hA
        obtain ⟨b0, br, rfl⟩ := List.exists_cons_of_ne_nil hB
        simp
      · obtain ⟨x, hx, hrow⟩ := List.mem_flatMap.mp hrow
        obtain ⟨y, hy, rfl⟩ := List.mem_map.mp hrow
        have hd : dist t x y = gap t AA B := gap_uniq hA hB ⟨x, hx, y, hy, rfl⟩ fun x' hx' y' hy' => by
          have := hmin [dist t x' y', x', y'] (List.mem_flatMap.mpr ⟨x', hx', List.mem_map.mpr ⟨y', hy', rfl⟩⟩)
          have : ((dist t x y : Nat) : Int) ≤ ((dist t x' y' : Nat) : Int) := lex3 this
          omega
        rw [hd] at hv
        exact q v H2 x y s2 hv hx hy hd
end
end Jr
set_option Elab.async false
set_option linter.all false
set_option maxRecDepth 100000
set_option maxHeartbeats 4000000
/-! The class World. -/
namespace Jr
open PySem PySem.Spec PyProof.Rows L2
open C8 (InsC)
structure WdOk (K : PySem.W.Frag) (mg : Str → Option Value) (C : Addr) : Prop where
  g : mg "World" = some (.ref C)
  isc : InsC K C
  nt : NoAttr K C "trees"
  nb : NoAttr K C "tables"
/-- the tables of gaps: a list of them -/
def TabsR : Rp Trs := fun H v ts => ∃ l xs, v = .ref l ∧ H l = some (.lst xs) ∧ Paired (fun v t => MatR H v (gapsM t)) xs ts
def TabR : Rp (List Nat) := fun H v t => MatR H v (gapsM t)
theorem TabsR.same {H H' : Hp} (s : Same H H') {v : V} {ts : Trs} (h : TabsR H v ts) : TabsR H' v ts := let ⟨l, xs, e, h, p⟩ := h; ⟨l, xs, e, s _ _ h, Paired.mono (fun _ _ r => MatR.same s r) p⟩
structure WorldR (C : Addr) (H : Hp) (v : V) (ts : Trs) : Prop where
  ex : ∃ a dx fs tv bv, v = .ref a ∧ H a = some (.ins C dx fs) ∧ fs.lookup ("trees" : Str) = some tv ∧ fs.lookup ("tables" : Str) = some bv ∧ fs.lookup ("sizes" : Str) = none ∧ TupOf NatsT H tv ts ∧ TabsR H bv ts
  ok : ∀ t ∈ ts, TreeOk t
  len : 1 ≤ ts.length ∧ ts.length ≤ 4
theorem WorldR.same {C : Addr} {H H' : Hp} (s : Same H H') {v : V} {ts : Trs} (h : WorldR C H v ts) : WorldR C H' v ts := by
  obtain ⟨⟨a, dx, fs, tv, bv, e, ha, l1, l2, l3, r1, r2⟩, h1, h2⟩ := h
  exact ⟨⟨a, dx, fs, tv, bv, e, s _ _ ha, l1, l2, l3, stb_part _ _ _ _ (kt s) r1, r2.same s⟩, h1, h2⟩
section
variable {P : Program} {w : World} {K : PySem.W.Frag} {mg : Str → Option Value} {base : Heap} {f : Addr} {fd : FuncData} {C : Addr}
/-! ### sizes, check_world -/
def sp_sizes (C : Addr) : Sp := fun vs H Q _ => ∃ v ts, vs = [v] ∧ WorldR C H v ts ∧ ∀ u H', Same H H' → NatsT H' u (ts.map fun t => t.length + 1) → Q u H'
theorem k_sizes (T : Tx mg) (W : WdOk K mg C)
    (F : FunD K "sizes" "World.sizes" (defArgs s_W_sizes) (defBody s_W_sizes) (defScope s_W_sizes) [] [] f fd) : Binds K fd ["self"] [] ∧ FnOk P w K mg base CX0 1 f fd ["self"] (sp_sizes C) := by
  refine ⟨F.bindsN (fun _ _ _ _ _ _ us hl => match us, hl with | [_], _ => rfl), F.ok c_W_sizes (fun vs H Q E h => ?_) (fun cdv A outer s H vs Q E hr h => ?_)⟩
  · obtain ⟨v, ts, rfl, _⟩ := h
    rfl
  · obtain ⟨v, ts, rfl, hw, q⟩ := h
    have nd := c_W_sizes.nd
    refine ⟨_, PSs.nox (pss_one (ps_ret (pe_tuple T (pe_lcm (own := [("tree", 1)]) (g := gName 1) nd (pi_tup (pe_fld (pv 0) rfl)) (blkOk_by (N := ["self", "tree"]) (sc := defScope s_W_sizes) (by decide +kernel)) (fun _ _ _ _ _ => pg_name (i := 1) nd rfl (.inl rfl) (.inr rfl))
        (fun _ _ _ _ _ => pe_op op_add (pe_len T (pv 1)) pe_int))))), ?_⟩
    obtain ⟨⟨a, dx, fs, tv, bv, rfl, ha, l1, l2, l3, ⟨ta, txs, rfl, hta, tpd⟩, r2⟩, hok, hlen⟩ := hw
    refine ⟨.ref a, rfl, a, C, dx, fs, .ref ta, rfl, ha, W.isc.cl, W.nt, l1, ta, rfl, ⟨_, SqT.of hta⟩, ?_⟩
    refine lc_tupP stb_nats (Stb.d stb_nat) hta tpd (by omega) (fun t => t.length + 1) (fun D t vt H3 Kn hacc ht s3 rt kn => ⟨rfl, ?_⟩) (fun D ys H3 hD s3 e3 p3 => ?_)
    · obtain ⟨tt, xs, rfl, htt, pd⟩ := rt
      refine ⟨.ref tt, rfl, len_tup htt (pd_len pd) ⟨_, _, rfl, rfl, kn _ H3 (Same.refl H3) rfl⟩⟩
    · refine tuple_lst e3 fun u hu => q _ _ (s3.trans (sm_new hu)) ⟨u, _, rfl, upd_same, stb_pairs stb_nat (kt (sm_new hu)) p3⟩
def sp_check_world (C : Addr) : Sp := fun vs H Q _ => ∃ v ts, vs = [v] ∧ WorldR C H v ts ∧ Q .non H
structure aIsW (C : Addr) (xs : List V) (H : Hp) (Q : VK) : Prop where
  ex : ∃ a dx fs, xs = [.ref a, .ref C] ∧ H a = some (.ins C dx fs) ∧ Q (.bl true) H
theorem k_check_world (T : Tx mg) (W : WdOk K mg C) (F : FnP K "check_world" s_check_world f fd) (g : mg "check_world" = some (.ref f)) : Kn P w K mg base "check_world" 1 ["thing"] (sp_check_world C) := by
  refine kn_of F g (F.ok c_check_world (fun vs H Q E h => ?_) (fun cdv A outer s H vs Q E hr h => ?_)) (fun _ _ _ _ _ _ us hl => match us, hl with | [_], _ => rfl)
  · obtain ⟨v, ts, rfl, _⟩ := h
    rfl
  · obtain ⟨v, ts, rfl, hw, q⟩ := h
    refine ⟨_, PSs.nox (pss_one (ps_if (pt_not (pt_val (pe_callB (r := aIsW C) (callR_of (C8.call_isC W.isc) fun _ _ _ h => h.ex) (by rfl) T.isinstance boot_isinstance (pa_cons (pv 0) (pa_cons (pe_glob (v := .ref C) (by rfl) W.g rfl) pa_nil))))) pss_never pss_nil)), ?_⟩
    obtain ⟨⟨a, dx, fs, tv, bv, rfl, ha, _⟩, _⟩ := hw
    exact ⟨.ref a, rfl, ⟨⟨a, dx, fs, rfl, ha, true, rfl, iteF q⟩⟩⟩
end
end Jr
set_option Elab.async false
set_option linter.all false
set_option maxRecDepth 100000
set_option maxHeartbeats 4000000
namespace Jr
open PySem PySem.Spec PyProof.Rows L2
theorem pok_zip : ∀ {ts : Trs} {Pa : Prt}, Pok ts Pa → ∀ p ∈ ts.zip Pa, Hangs p.1 p.2
  | [], [], _, p, hp => by simp at hp
  | t :: ts, b :: Pa, h, p, hp => by
    rw [List.zip_cons_cons] at hp
    rcases List.mem_cons.mp hp with e | hp
    · rw [e]; exact h.1
    · exact pok_zip h.2 p hp
  | [], _ :: _, h, _, _ => h.elim
  | _ :: _, [], h, _, _ => h.elim
theorem sok_zip : ∀ {ts : Trs} {s : List Nat}, Sok ts s → ∀ p ∈ ts.zip s, p.2 ≤ p.1.length
  | [], [], _, p, hp => by simp at hp
  | t :: ts, b :: Pa, h, p, hp => by
    rw [List.zip_cons_cons] at hp
    rcases List.mem_cons.mp hp with e | hp
    · rw [e]; exact h.1
    · exact sok_zip h.2 p hp
  | [], _ :: _, h, _, _ => h.elim
  | _ :: _, [], h, _, _ => h.elim
section
variable {P : Program} {w : World} {K : PySem.W.Frag} {mg : Str → Option Value} {base : Heap} {f : Addr} {fd : FuncData} {C : Addr}
def sp_makes_part (C : Addr) : Sp := fun vs H Q _ => ∃ v u ts Pa, vs = [v, u] ∧ WorldR C H v ts ∧ PartT H u Pa ∧ Pok ts Pa ∧ ∀ H', Same H H' → Q (.bl true) H'
theorem k_makes_part (T : Tx mg) (W : WdOk K mg C) (W1 : Kn P w K mg base "hangs_together" 3 ["tree", "thing"] sp_hangs)
    (F : FnP K "makes_part" s_makes_part f fd) (g : mg "makes_part" = some (.ref f)) : Kn P w K mg base "makes_part" 4 ["world", "thing"] (sp_makes_part C) := by
  refine kn_of F g (F.ok c_makes_part (fun vs H Q E h => ?_) (fun cdv A outer s H vs Q E hr h => ?_)) (fun _ _ _ _ _ _ us hl => match us, hl with | [_, _], _ => rfl)
  · obtain ⟨v, u, ts, Pa, rfl, _⟩ := h
    rfl
  · obtain ⟨v, u, ts, Pa, rfl, hw, hu, hok, q⟩ := h
    have nd := c_makes_part.nd
    refine ⟨_, PSs.nox (pss_cons (ps_if (PW.pt (pw_or (pt_not (pt_val (pe_isi T (pv 1) T.tuple boot_tuple))) (pw_or1 (pt_cmpR op_ne (pe_len T (pv 1)) (pe_len T (pe_fld (pv 0) rfl)) (nomark _))))) (pss_one (ps_ret pe_bl)) pss_nil)
      (pss_one (ps_ret (pe_all T (pe_lcm (own := [("tree", 2), ("branch", 3)]) (g := gTup K 2 (gCons (gName 2) (gCons (gName 3) gNil))) nd (pi_zip2 T.zip (pa_cons (pe_fld (pv 0) rfl) (pa_cons (pv 1) pa_nil))) (blkOk_by (N := ["world", "thing", "tree", "branch"]) (sc := defScope s_makes_part) (by decide +kernel))
        (fun _ _ _ _ _ => pg_tup rfl (pgs_cons (pg_name (i := 2) nd rfl (.inl rfl) (.inr rfl)) (pgs_cons (pg_name (i := 3) nd rfl (.inl rfl) (.inr rfl)) pgs_nil)))
        (fun _ _ _ _ _ => pe_kn W1 hr (pa_cons (pv 2) (pa_cons (pv 3) pa_nil)))))))), ?_⟩
    obtain ⟨⟨a, dx, fs, tv, bv, rfl, ha, l1, l2, l3, ⟨ta, txs, rfl, hta, tpd⟩, r2⟩, htok, hlen⟩ := hw
    obtain ⟨pa, pxs, rfl, hpa, ppd⟩ := hu
    have hPl := hok.len
    refine ⟨.ref pa, rfl, isi_tup hpa ⟨true, rfl, ?_⟩⟩
    refine iteF ⟨.ref pa, rfl, len_tup hpa (pd_len ppd) ?_⟩
    refine ⟨.ref a, rfl, a, C, dx, fs, .ref ta, rfl, ha, W.isc.cl, W.nt, l1, ?_⟩
    refine len_tup hta (pd_len tpd) ⟨rfl, _, rfl, ?_⟩
    rw [hPl, decide_eq_true rfl]
    refine iteF ?_
    refine ⟨.ref a, rfl, a, C, dx, fs, .ref ta, rfl, ha, W.isc.cl, W.nt, l1, _, rfl, .ref ta, .ref pa, .t, .t, txs, pxs, rfl, ⟨ta, rfl, SqT.of hta⟩, ⟨pa, rfl, SqT.of hpa⟩, ?_⟩
    refine lc_zipT stb_nats stb_nats (Stb.d stb_bl) hta hpa tpd ppd (by omega) (fun _ => true) (fun D p v H2 Kn hacc hp s2 rp kn => ?_) (fun D ys H2 hD s2 e2 p2 => ?_)
    · refine g_pair rp fun x y rx ry => ⟨rfl, ?_⟩
      exact ⟨_, rfl, _, rfl, x, y, p.1, p.2, rfl, rx, htok _ (List.of_mem_zip hp).1, ry, pok_zip hok p hp, fun H3 s3 => kn _ H3 s3 rfl⟩
    · refine all_ans e2 p2 ?_
      rw [map_true fun _ _ => rfl]
      exact q H2 s2
def sp_makes_spot (C : Addr) : Sp := fun vs H Q _ => ∃ v u ts s, vs = [v, u] ∧ WorldR C H v ts ∧ NatsT H u s ∧ Sok ts s ∧ ∀ H', Same H H' → Q (.bl true) H'
theorem k_makes_spot (T : Tx mg) (W : WdOk K mg C) (W1 : Kn P w K mg base "is_within" 2 ["thing", "low", "high"] sp_is_within)
    (F : FnP K "makes_spot" s_makes_spot f fd) (g : mg "makes_spot" = some (.ref f)) : Kn P w K mg base "makes_spot" 3 ["world", "thing"] (sp_makes_spot C) := by
  refine kn_of F g (F.ok c_makes_spot (fun vs H Q E h => ?_) (fun cdv A outer s H vs Q E hr h => ?_)) (fun _ _ _ _ _ _ us hl => match us, hl with | [_, _], _ => rfl)
  · obtain ⟨v, u, ts, Pa, rfl, _⟩ := h
    rfl
  · obtain ⟨v, u, ts, Pa, rfl, hw, hu, hok, q⟩ := h
    have nd := c_makes_spot.nd
    refine ⟨_, PSs.nox (pss_cons (ps_if (PW.pt (pw_or (pt_not (pt_val (pe_isi T (pv 1) T.tuple boot_tuple))) (pw_or1 (pt_cmpR op_ne (pe_len T (pv 1)) (pe_len T (pe_fld (pv 0) rfl)) (nomark _))))) (pss_one (ps_ret pe_bl)) pss_nil)
      (pss_one (ps_ret (pe_all T (pe_lcm (own := [("tree", 2), ("place", 3)]) (g := gTup K 2 (gCons (gName 2) (gCons (gName 3) gNil))) nd (pi_zip2 T.zip (pa_cons (pe_fld (pv 0) rfl) (pa_cons (pv 1) pa_nil))) (blkOk_by (N := ["world", "thing", "tree", "place"]) (sc := defScope s_makes_spot) (by decide +kernel))
        (fun _ _ _ _ _ => pg_tup rfl (pgs_cons (pg_name (i := 2) nd rfl (.inl rfl) (.inr rfl)) (pgs_cons (pg_name (i := 3) nd rfl (.inl rfl) (.inr rfl)) pgs_nil)))
        (fun _ _ _ _ _ => pe_kn W1 hr (pa_cons (pv 3) (pa_cons pe_int (pa_cons (pe_len T (pv 2)) pa_nil))))))))), ?_⟩
    obtain ⟨⟨a, dx, fs, tv, bv, rfl, ha, l1, l2, l3, ⟨ta, txs, rfl, hta, tpd⟩, r2⟩, htok, hlen⟩ := hw
    obtain ⟨pa, pxs, rfl, hpa, ppd⟩ := hu
    have hPl := hok.len
    refine ⟨.ref pa, rfl, isi_tup hpa ⟨true, rfl, ?_⟩⟩
    refine iteF ⟨.ref pa, rfl, len_tup hpa (pd_len ppd) ?_⟩
    refine ⟨.ref a, rfl, a, C, dx, fs, .ref ta, rfl, ha, W.isc.cl, W.nt, l1, ?_⟩
    refine len_tup hta (pd_len tpd) ⟨rfl, _, rfl, ?_⟩
    rw [hPl, decide_eq_true rfl]
    refine iteF ?_
    refine ⟨.ref a, rfl, a, C, dx, fs, .ref ta, rfl, ha, W.isc.cl, W.nt, l1, _, rfl, .ref ta, .ref pa, .t, .t, txs, pxs, rfl, ⟨ta, rfl, SqT.of hta⟩, ⟨pa, rfl, SqT.of hpa⟩, ?_⟩
    refine lc_zipT stb_nats stb_nat (Stb.d stb_bl) hta hpa tpd ppd (by omega) (fun _ => true) (fun D p v H2 Kn hacc hp s2 rp kn => ?_) (fun D ys H2 hD s2 e2 p2 => ?_)
    · refine g_pair rp fun x y rx ry => ⟨rfl, ?_⟩
      obtain ⟨tt, xs, rfl, htt, pd⟩ := rx
      have hy : y = .int (p.2 : Int) := ry
      subst hy
      have hle := sok_zip hok p hp
      refine ⟨_, rfl, .ref tt, rfl, len_tup htt (pd_len pd) ⟨(p.2 : Int), 0, (p.1.length : Int), rfl, ?_⟩⟩
      rw [decide_eq_true (by omega)]
      exact kn _ H2 (Same.refl H2) rfl
    · refine all_ans e2 p2 ?_
      rw [map_true fun _ _ => rfl]
      exact q H2 s2
def sp_check_part (C : Addr) : Sp := fun vs H Q _ => ∃ v u ts Pa, vs = [v, u] ∧ WorldR C H v ts ∧ PartT H u Pa ∧ Pok ts Pa ∧ ∀ H', Same H H' → Q .non H'
theorem k_check_part (W1 : Kn P w K mg base "makes_part" 4 ["world", "thing"] (sp_makes_part C)) (F : FnP K "check_part" s_check_part f fd) (g : mg "check_part" = some (.ref f)) : Kn P w K mg base "check_part" 5 ["world", "thing"] (sp_check_part C) := by
  refine kn_of F g (F.ok c_check_part (fun vs H Q E h => ?_) (fun cdv A outer s H vs Q E hr h => ?_)) (fun _ _ _ _ _ _ us hl => match us, hl with | [_, _], _ => rfl)
  · obtain ⟨v, u, ts, Pa, rfl, _⟩ := h
    rfl
  · obtain ⟨v, u, ts, Pa, rfl, hw, hu, hok, q⟩ := h
    refine ⟨_, PSs.nox (pss_one (ps_if (pt_not (pt_val (pe_kn W1 hr (pa_cons (pv 0) (pa_cons (pv 1) pa_nil))))) pss_never pss_nil)), ?_⟩
    exact ⟨v, rfl, u, rfl, v, u, ts, Pa, rfl, hw, hu, hok, fun H' sm => ⟨true, rfl, iteF (q H' sm)⟩⟩
def sp_check_spot (C : Addr) : Sp := fun vs H Q _ => ∃ v u ts s, vs = [v, u] ∧ WorldR C H v ts ∧ NatsT H u s ∧ Sok ts s ∧ ∀ H', Same H H' → Q .non H'
theorem k_check_spot (W1 : Kn P w K mg base "makes_spot" 3 ["world", "thing"] (sp_makes_spot C)) (F : FnP K "check_spot" s_check_spot f fd) (g : mg "check_spot" = some (.ref f)) : Kn P w K mg base "check_spot" 4 ["world", "thing"] (sp_check_spot C) := by
  refine kn_of F g (F.ok c_check_spot (fun vs H Q E h => ?_) (fun cdv A outer s H vs Q E hr h => ?_)) (fun _ _ _ _ _ _ us hl => match us, hl with | [_, _], _ => rfl)
  · obtain ⟨v, u, ts, Pa, rfl, _⟩ := h
    rfl
  · obtain ⟨v, u, ts, Pa, rfl, hw, hu, hok, q⟩ := h
    refine ⟨_, PSs.nox (pss_one (ps_if (pt_not (pt_val (pe_kn W1 hr (pa_cons (pv 0) (pa_cons (pv 1) pa_nil))))) pss_never pss_nil)), ?_⟩
    exact ⟨v, rfl, u, rfl, v, u, ts, Pa, rfl, hw, hu, hok, fun H' sm => ⟨true, rfl, iteF (q H' sm)⟩⟩
def sp_check_two (C : Addr) : Sp := fun vs H Q _ => ∃ v u u2 ts Pa Pb, vs = [v, u, u2] ∧ WorldR C H v ts ∧ PartT H u Pa ∧ Pok ts Pa ∧ PartT H u2 Pb ∧ Pok ts Pb ∧ ∀ H', Same H H' → Q .non H'
theorem k_check_two (W0 : Kn P w K mg base "check_world" 1 ["thing"] (sp_check_world C)) (W1 : Kn P w K mg base "check_part" 5 ["world", "thing"] (sp_check_part C)) (F : FnP K "check_two" s_check_two f fd) (g : mg "check_two" = some (.ref f)) : Kn P w K mg base "check_two" 6 ["world", "one", "other"] (sp_check_two C) := by
  refine kn_of F g (F.ok c_check_two (fun vs H Q E h => ?_) (fun cdv A outer s H vs Q E hr h => ?_)) (fun _ _ _ _ _ _ us hl => match us, hl with | [_, _, _], _ => rfl)
  · obtain ⟨v, u, u2, ts, Pa, Pb, rfl, _⟩ := h
    rfl
  · obtain ⟨v, u, u2, ts, Pa, Pb, rfl, hw, hu, hok, hu2, hok2, q⟩ := h
    refine ⟨_, PSs.nox (pss_cons (ps_expr (pe_kn W0 hr (pa_cons (pv 0) pa_nil))) (pss_cons (ps_expr (pe_kn W1 hr (pa_cons (pv 0) (pa_cons (pv 1) pa_nil)))) (pss_one (ps_expr (pe_kn W1 hr (pa_cons (pv 0) (pa_cons (pv 2) pa_nil))))))), ?_⟩
    refine ⟨v, rfl, v, ts, rfl, hw, ?_⟩
    refine ⟨v, rfl, u, rfl, v, u, ts, Pa, rfl, hw, hu, hok, fun H1 s1 => ?_⟩
    exact ⟨v, rfl, u2, rfl, v, u2, ts, Pb, rfl, hw.same s1, stb_part _ _ _ _ (kt s1) hu2, hok2, fun H2 s2 => q H2 (s1.trans s2)⟩
def sp_is_part (C : Addr) : Sp := sp_makes_part C
theorem k_is_part (W0 : Kn P w K mg base "check_world" 1 ["thing"] (sp_check_world C)) (W1 : Kn P w K mg base "makes_part" 4 ["world", "thing"] (sp_makes_part C)) (F : FnP K "is_part" s_is_part f fd) (g : mg "is_part" = some (.ref f)) : Kn P w K mg base "is_part" 5 ["world", "thing"] (sp_is_part C) := by
  refine kn_of F g (F.ok c_is_part (fun vs H Q E h => ?_) (fun cdv A outer s H vs Q E hr h => ?_)) (fun _ _ _ _ _ _ us hl => match us, hl with | [_, _], _ => rfl)
  · obtain ⟨v, u, ts, Pa, rfl, _⟩ := h
    rfl
  · obtain ⟨v, u, ts, Pa, rfl, hw, hu, hok, q⟩ := h
    refine ⟨_, PSs.nox (pss_cons (ps_expr (pe_kn W0 hr (pa_cons (pv 0) pa_nil))) (pss_one (ps_ret (pe_kn W1 hr (pa_cons (pv 0) (pa_cons (pv 1) pa_nil)))))), ?_⟩
    refine ⟨v, rfl, v, ts, rfl, hw, ?_⟩
    exact ⟨v, rfl, u, rfl, v, u, ts, Pa, rfl, hw, hu, hok, fun H1 s1 => q H1 s1⟩
def sp_as_part (C : Addr) : Sp := fun vs H Q _ => ∃ v u ts s, vs = [v, u] ∧ WorldR C H v ts ∧ NatsT H u s ∧ Sok ts s ∧ ∀ x H', Same H H' → PartT H' x (one s) → Q x H'
theorem k_as_part (T : Tx mg) (W0 : Kn P w K mg base "check_world" 1 ["thing"] (sp_check_world C)) (W1 : Kn P w K mg base "check_spot" 4 ["world", "thing"] (sp_check_spot C)) (F : FnP K "as_part" s_as_part f fd) (g : mg "as_part" = some (.ref f)) : Kn P w K mg base "as_part" 5 ["world", "spot"] (sp_as_part C) := by
  refine kn_of F g (F.ok c_as_part (fun vs H Q E h => ?_) (fun cdv A outer s H vs Q E hr h => ?_)) (fun _ _ _ _ _ _ us hl => match us, hl with | [_, _], _ => rfl)
  · obtain ⟨v, u, ts, Pa, rfl, _⟩ := h
    rfl
  · obtain ⟨v, u, ts, sp, rfl, hw, hu, hok, q⟩ := h
    have nd := c_as_part.nd
    refine ⟨_, PSs.nox (pss_cons (ps_expr (pe_kn W0 hr (pa_cons (pv 0) pa_nil))) (pss_cons (ps_expr (pe_kn W1 hr (pa_cons (pv 0) (pa_cons (pv 1) pa_nil))))
      (pss_one (ps_ret (pe_tuple T (pe_lcm (own := [("place", 2)]) (g := gName 2) nd (pi_tup (pv 1)) (blkOk_by (N := ["world", "spot", "place"]) (sc := defScope s_as_part) (by decide +kernel)) (fun _ _ _ _ _ => pg_name (i := 2) nd rfl (.inl rfl) (.inr rfl))
        (fun _ _ _ _ _ => pe_tup (pa_cons (pv 2) pa_nil)))))))), ?_⟩
    refine ⟨v, rfl, v, ts, rfl, hw, ?_⟩
    refine ⟨v, rfl, u, rfl, v, u, ts, sp, rfl, hw, hu, hok, fun H1 s1 => ?_⟩
    obtain ⟨ua, uxs, rfl, hua, upd_⟩ := stb_nats _ _ _ _ (kt s1) hu
    have hsl : sp.length ≤ 4 := by rw [hok.len]; exact hw.len.2
    refine ⟨.ref ua, rfl, ua, rfl, ⟨_, SqT.of hua⟩, ?_⟩
    refine lc_tupP stb_nat (Stb.d stb_nats) hua upd_ (by omega) (fun x => [x]) (fun D t vt H3 Kn hacc ht s3 rt kn => ⟨rfl, ?_⟩) (fun D ys H3 hD s3 e3 p3 => ?_)
    · refine ⟨vt, rfl, by show 1 ≤ sizeLine; decide, fun x hx => kn _ _ (sm_new hx) ⟨x, [vt], rfl, upd_same, .cons rt .nil⟩⟩
    · refine tuple_lst e3 fun l hl => q _ _ ((s1.trans s3).trans (sm_new hl)) ⟨l, ys, rfl, upd_same, stb_pairs stb_nats (kt (sm_new hl)) p3⟩
end
end Jr
set_option Elab.async false
set_option linter.all false
set_option maxRecDepth 100000
set_option maxHeartbeats 4000000
namespace Jr
open PySem PySem.Spec PyProof.Rows L2
theorem inn_flat : ∀ {Pa Pb : Prt}, Pa.length = Pb.length → (((Pa.zip Pb).flatMap fun p => p.1.map fun x => decide (x ∈ p.2)).all id = true ↔ Inn Pa Pb)
  | [], [], _ => by simp [Inn]
  | a :: Pa, b :: Pb, h => by
    rw [List.zip_cons_cons, List.flatMap_cons, List.all_append, Bool.and_eq_true, inn_flat (by simpa using h)]
    simp [Inn]
  | [], _ :: _, h => by simp at h
  | _ :: _, [], h => by simp at h
theorem far_sum : ∀ {ts : Trs} {Pa Pb : Prt}, far ts Pa Pb = ((ts.zip (Pa.zip Pb)).map fun p => gap p.1 p.2.1 p.2.2).sum
  | [], _, _ => by simp [far]
  | _ :: _, [], _ => by simp [far]
  | _ :: _, _ :: _, [] => by simp [far]
  | t :: ts, a :: Pa, b :: Pb => by
    rw [List.zip_cons_cons, List.zip_cons_cons, List.map_cons, List.sum_cons, ← far_sum]; rfl
/-- hulls tree by tree, as a list is built -/
theorem hull_snoc : ∀ {ts : Trs} {Pa Pb Hh : Prt} {t a b h : List Nat}, IsHull ts Pa Pb Hh → (Rises h ∧ ∀ z, z ∈ h ↔ ∃ y ∈ a ++ b, z ∈ path t ((a ++ b).headD 0) y) → IsHull (ts ++ [t]) (Pa ++ [a]) (Pb ++ [b]) (Hh ++ [h])
  | [], [], [], [], _, _, _, _, _, h => ⟨h, trivial⟩
  | _ :: _, _ :: _, _ :: _, _ :: _, _, _, _, _, h0, h => ⟨h0.1, hull_snoc h0.2 h⟩
theorem far_lt {ts : Trs} {Pa Pb : Prt} (hok : ∀ t ∈ ts, TreeOk t) (ha : Pok ts Pa) (hb : Pok ts Pb) : True := trivial
section
variable {P : Program} {w : World} {K : PySem.W.Frag} {mg : Str → Option Value} {base : Heap} {f : Addr} {fd : FuncData} {C : Addr}
theorem tok_len {ts : Trs} {t : List Nat} (h : ∀ t ∈ ts, TreeOk t) (ht : t ∈ ts) : t.length ≤ 11 := by have := (h t ht).1; omega
def sp_part_in : Sp := fun vs H Q _ => ∃ u u2 ts Pa Pb, vs = [u, u2] ∧ PartT H u Pa ∧ PartT H u2 Pb ∧ Pok ts Pa ∧ Pok ts Pb ∧ (∀ t ∈ ts, TreeOk t) ∧ ts.length ≤ 4 ∧ ∀ b H', Same H H' → (b = true ↔ Inn Pa Pb) → Q (.bl b) H'
theorem k_part_in (T : Tx mg) (F : FnP K "part_in" s_part_in f fd) (g : mg "part_in" = some (.ref f)) : Kn P w K mg base "part_in" 1 ["one", "other"] sp_part_in := by
  refine kn_of F g (F.ok c_part_in (fun vs H Q E h => ?_) (fun cdv A outer s H vs Q E hr h => ?_)) (fun _ _ _ _ _ _ us hl => match us, hl with | [_, _], _ => rfl)
  · obtain ⟨u, u2, ts, Pa, Pb, rfl, _⟩ := h
    rfl
  · obtain ⟨u, u2, ts, Pa, Pb, rfl, ha, hb, oka, okb, tok, hl4, q⟩ := h
    have nd := c_part_in.nd
    refine ⟨_, PSs.nox (pss_one (ps_ret (pe_all T (pe_lcm2 (own := [("here", 2), ("there", 3), ("place", 4)]) (vs1 := [4]) (g := gTup K 2 (gCons (gName 2) (gCons (gName 3) gNil))) (g1 := gName 4) (wi1 := iTup K (tVar 2))
        (te := tOp (rIn K false) (tVar 4) (tVar 3)) nd (pi_zip2 T.zip (pa_cons (pv 0) (pa_cons (pv 1) pa_nil))) (blkOk_by (N := ["one", "other", "here", "there", "place"]) (sc := defScope s_part_in) (by decide +kernel)) (by decide)
        (fun _ _ _ _ _ => pg_tup rfl (pgs_cons (pg_name (i := 2) nd rfl (.inl rfl) (.inr rfl)) (pgs_cons (pg_name (i := 3) nd rfl (.inl rfl) (.inr rfl)) pgs_nil)))
        (fun _ _ _ _ _ => pi_tup (pv 2)) (fun _ _ _ _ _ => pg_name (i := 4) nd rfl (.inl rfl) (.inr rfl))
        (fun _ _ _ _ _ => pe_cmpR op_in_seq (pv 4) (pv 3) rfl))))), ?_⟩
    obtain ⟨pa, xa, rfl, hpa, pda⟩ := ha
    obtain ⟨pb, xb, rfl, hpb, pdb⟩ := hb
    have la := oka.len
    have lb := okb.len
    refine ⟨.ref pa, rfl, .ref pb, rfl, .ref pa, .ref pb, .t, .t, xa, xb, rfl, ⟨pa, rfl, SqT.of hpa⟩, ⟨pb, rfl, SqT.of hpb⟩, ?_⟩
    have hbl : ∀ p ∈ Pa.zip Pb, p.1.length ≤ 12 := fun p hp => by
      have hm := (List.of_mem_zip hp).1
      obtain ⟨i, hi⟩ := List.mem_iff_getElem?.mp hm
      have hi' := (List.getElem?_eq_some_iff.mp hi).1
      obtain ⟨t, ht⟩ := get_lt (as := ts) (i := i) (by omega)
      have := hangs_len (pok_zip oka (t, p.1) (List.mem_iff_getElem?.mpr ⟨i, List.getElem?_zip_eq_some.mpr ⟨ht, hi⟩⟩))
      have := tok_len tok (List.mem_of_getElem? ht)
      simp only at *
      omega
    refine lc2_map walk_N (Pa.zip Pb) (by rw [List.length_zip, pd_len pda, pd_len pdb]) (fun p => p.1) (fun p x => decide (x ∈ p.2)) ?_ (Stb.d stb_bl) (fun H' s' => ⟨⟨pa, rfl, SqT.of (s' _ _ hpa)⟩, ⟨pb, rfl, SqT.of (s' _ _ hpb)⟩⟩) ?_ ?_
    · have h1 := flat_len (l := Pa.zip Pb) (f := fun p => p.1.map fun x => decide (x ∈ p.2)) (m := 12) (fun p hp => by rw [List.length_map]; exact hbl p hp)
      have h2 : (Pa.zip Pb).length ≤ 4 := by rw [List.length_zip]; omega
      omega
    · rintro D i p vx H2 H2' KI hD hacc hx s2 ⟨T2, rfl, hT2, rfl⟩ kI
      obtain ⟨x, y, e, r1, r2⟩ := pairs_zip pda pdb i p hx
      have s3 : Same H2 (upd H2 T2 (.tup [xa.getD i .non, xb.getD i .non])) := sm_new hT2
      have k3 := kt (s2.trans s3)
      have rp : PairR NatsT NatsT (upd H2 T2 (.tup [xa.getD i .non, xb.getD i .non])) (.ref T2) p := ⟨T2, x, y, rfl, by rw [upd_same]; exact congrArg (fun l => some (HO.tup l)) e, stb_nats _ _ _ _ k3 r1, stb_nats _ _ _ _ k3 r2⟩
      generalize upd H2 T2 (.tup [xa.getD i .non, xb.getD i .non]) = H3 at rp s3
      refine g_pair rp fun x y rx ry => ⟨rfl, ?_⟩
      obtain ⟨qa, xs, rfl, hqa, pdx⟩ := rx
      have hxs := nvs_of pdx
      subst hxs
      refine ⟨.ref qa, rfl, qa, rfl, ⟨_, SqT.of hqa⟩, ?_⟩
      refine kI _ H3 _ _ _ _ walk_tup (nvs_len _) s3 (fun H4 u4 => SqT.of (u4.kt _ _ hqa)) ?_
      rintro j z vz H5 H6 Kn hz u5 hacc5 ⟨rfl, hvz⟩ kn
      rw [nvs_get hz] at hvz
      cases hvz
      obtain ⟨qb, ys, rfl, hqb, pdy⟩ := stb_nats _ _ _ _ u5.kt ry
      have hys := nvs_of pdy
      subst hys
      refine ⟨rfl, ?_⟩
      refine ⟨.int (z : Int), rfl, .ref qb, rfl, qb, _, rfl, .inr (SqT.of hqb), rfl, nvs_flat _, ?_⟩
      rw [if_neg (by decide), nvs_in]
      exact kn _ H6 (Same.refl _) rfl
    · intro D ys H2 hD s2 e2 p2
      refine all_ans e2 p2 ?_
      exact q _ H2 s2 (inn_flat (by omega))
def sp_part_far (C : Addr) : Sp := fun vs H Q _ => ∃ v u u2 ts Pa Pb, vs = [v, u, u2] ∧ WorldR C H v ts ∧ PartT H u Pa ∧ PartT H u2 Pb ∧ Pok ts Pa ∧ Pok ts Pb ∧ ∀ H', Same H H' → Q (.int (far ts Pa Pb : Int)) H'
theorem k_part_far (T : Tx mg) (W : WdOk K mg C) (W1 : Kn P w K mg base "least_gap" 1 ["rows", "one", "other"] sp_least) (F : FnP K "part_far" s_part_far f fd) (g : mg "part_far" = some (.ref f)) : Kn P w K mg base "part_far" 2 ["world", "one", "other"] (sp_part_far C) := by
  refine kn_of F g (F.ok c_part_far (fun vs H Q E h => ?_) (fun cdv A outer s H vs Q E hr h => ?_)) (fun _ _ _ _ _ _ us hl => match us, hl with | [_, _, _], _ => rfl)
  · obtain ⟨v, u, u2, ts, Pa, Pb, rfl, _⟩ := h
    rfl
  · obtain ⟨v, u, u2, ts, Pa, Pb, rfl, hw, ha, hb, oka, okb, q⟩ := h
    have nd := c_part_far.nd
    refine ⟨_, PSs.nox (pss_cons (ps_set (i := 3) nd rfl (.inl rfl) pe_int)
      (pss_cons (ps_forG (g := gTup K 3 (gCons (gName 4) (gCons (gName 5) (gCons (gName 6) gNil)))) PassesOwn.never (pi_zip3 T.zip (pa_cons (pe_fld (pv 0) rfl) (pa_cons (pv 1) (pa_cons (pv 2) pa_nil)))) (pg_tup rfl (pgs_cons (pg_name (i := 4) nd rfl (.inl rfl) (.inl rfl)) (pgs_cons (pg_name (i := 5) nd rfl (.inl rfl) (.inl rfl)) (pgs_cons (pg_name (i := 6) nd rfl (.inl rfl) (.inl rfl)) pgs_nil))))
          (pss_one (ps_aug (i := 3) nd rfl (.inl rfl) (pe_ix ix_tup (pe_kn W1 hr (pa_cons (pv 4) (pa_cons (pv 5) (pa_cons (pv 6) pa_nil)))) pe_int (fun _ _ => rfl)) ip_add)))
      (pss_one (ps_ret (pv 3))))), ?_⟩
    obtain ⟨⟨a, dx, fs, tv, bv, rfl, ha', l1, l2, l3, ⟨ta, txs, rfl, hta, tpd⟩, ⟨bl, bxs, rfl, hbl, bpd⟩⟩, htok, hlen⟩ := hw
    obtain ⟨pa, xa, rfl, hpa, pda⟩ := ha
    obtain ⟨pb, xb, rfl, hpb, pdb⟩ := hb
    have la := oka.len
    have lb := okb.len
    refine ⟨.ref a, rfl, a, C, dx, fs, .ref bl, rfl, ha', W.isc.cl, W.nb, l2, .ref pa, rfl, .ref pb, rfl, .ref bl, .ref pa, .ref pb, .l, .t, .t, bxs, xa, xb, rfl, ⟨bl, rfl, SqL.of hbl⟩, ⟨pa, rfl, SqT.of hpa⟩, ⟨pb, rfl, SqT.of hpb⟩, ?_⟩
    refine for_trs (R := TabR) (S := NatsT) (U := NatsT) (Rl := fun H' => Same H H') (fun H' v a s' r => MatR.same s' r) (fun H' v a s' r => stb_nats _ _ _ _ (kt s') r) (fun H' v a s' r => stb_nats _ _ _ _ (kt s') r) (fun H1 H2 a b => a.trans b) (trips_zip bpd pda pdb) (by simp [pd_len bpd, pd_len pda, pd_len pdb]) (fun H' s' => ⟨⟨bl, rfl, SqL.of (s' _ _ hbl)⟩, ⟨pa, rfl, SqT.of (s' _ _ hpa)⟩, ⟨pb, rfl, SqT.of (s' _ _ hpb)⟩⟩)
      (fun i σ H' => Same H H' ∧ ∃ x y z, σ = [some (.ref a), some (.ref pa), some (.ref pb), some (.int ((((ts.zip (Pa.zip Pb)).take i).map fun p => gap p.1 p.2.1 p.2.2).sum : Nat)), x, y, z]) ⟨Same.refl H, _, _, _, rfl⟩ (fun i σ H' h => h.1) ?_ ?_
    · rintro i b v σ H1 H2 hb ⟨s1, x0, y0, z0, rfl⟩ s2 hp
      refine g_trip hp fun x y z rx ry rz => ?_
      obtain ⟨hb1, hb2⟩ := List.getElem?_zip_eq_some.mp hb
      obtain ⟨hb2, hb3⟩ := List.getElem?_zip_eq_some.mp hb2
      have hA := pok_zip oka (b.1, b.2.1) (List.mem_iff_getElem?.mpr ⟨i, List.getElem?_zip_eq_some.mpr ⟨hb1, hb2⟩⟩)
      have hB := pok_zip okb (b.1, b.2.2) (List.mem_iff_getElem?.mpr ⟨i, List.getElem?_zip_eq_some.mpr ⟨hb1, hb3⟩⟩)
      have ht11 := tok_len htok (List.mem_of_getElem? hb1)
      have hlA := hangs_len hA
      have hlB := hangs_len hB
      simp only at hlA hlB
      refine ⟨_, rfl, _, rfl, _, rfl, _, rfl, x, y, z, b.1, b.2.1, b.2.2, rfl, rx, ry, rz, hA.2.1, hB.2.1, hA.2.2.1, hB.2.2.1, by omega, by omega, fun v H3 p1 p2 s3 hv _ _ _ => ?_⟩
      obtain ⟨va, vxs, rfl, hva, vpd⟩ := hv
      have hvx := nvs_of vpd
      subst hvx
      refine ⟨va, _, 0, .int (gap b.1 b.2.1 b.2.2 : Int), rfl, rfl, SqT.of hva, rfl, ?_⟩
      refine ⟨_, _, rfl, rfl, (s1.trans s2).trans s3, some x, some y, some z, ?_⟩
      rw [take_snoc hb, List.map_append, List.sum_append]
      simp only [List.map_cons, List.map_nil, List.sum_cons, List.sum_nil, Nat.add_zero, Int.natCast_add]
      rfl
    · rintro σ H1 ⟨s1, x0, y0, z0, rfl⟩
      refine ⟨_, rfl, ?_⟩
      rw [List.take_length, ← far_sum]
      exact q H1 s1
def sp_part_hull (C : Addr) : Sp := fun vs H Q _ => ∃ v u u2 ts Pa Pb, vs = [v, u, u2] ∧ WorldR C H v ts ∧ PartT H u Pa ∧ PartT H u2 Pb ∧ Pok ts Pa ∧ Pok ts Pb ∧ ∀ x H' Hh, Same H H' → PartT H' x Hh → IsHull ts Pa Pb Hh → Q x H'
theorem k_part_hull (T : Tx mg) (W : WdOk K mg C) (W1 : Kn P w K mg base "branch_around" 3 ["tree", "some"] sp_around) (F : FnP K "part_hull" s_part_hull f fd) (g : mg "part_hull" = some (.ref f)) : Kn P w K mg base "part_hull" 4 ["world", "one", "other"] (sp_part_hull C) := by
  refine kn_of F g (F.ok c_part_hull (fun vs H Q E h => ?_) (fun cdv A outer s H vs Q E hr h => ?_)) (fun _ _ _ _ _ _ us hl => match us, hl with | [_, _, _], _ => rfl)
  · obtain ⟨v, u, u2, ts, Pa, Pb, rfl, _⟩ := h
    rfl
  · obtain ⟨v, u, u2, ts, Pa, Pb, rfl, hw, ha, hb, oka, okb, q⟩ := h
    have nd := c_part_hull.nd
    refine ⟨_, PSs.nox (pss_cons (ps_set (i := 3) nd rfl (.inl rfl) (pe_lst pa_nil))
      (pss_cons (ps_forG (g := gTup K 3 (gCons (gName 4) (gCons (gName 5) (gCons (gName 6) gNil)))) PassesOwn.never (pi_zip3 T.zip (pa_cons (pe_fld (pv 0) rfl) (pa_cons (pv 1) (pa_cons (pv 2) pa_nil)))) (pg_tup rfl (pgs_cons (pg_name (i := 4) nd rfl (.inl rfl) (.inl rfl)) (pgs_cons (pg_name (i := 5) nd rfl (.inl rfl) (.inl rfl)) (pgs_cons (pg_name (i := 6) nd rfl (.inl rfl) (.inl rfl)) pgs_nil))))
          (pss_one (ps_expr (pe_bm PySem.F.plainAttrs_list PySem.F.slot_list_append PySem.F.type_list_append mt_append (pv 3) (pa_cons (pe_kn W1 hr (pa_cons (pv 4) (pa_cons (pe_op op_catA (pv 5) (pv 6)) pa_nil))) pa_nil)))))
      (pss_one (ps_ret (pe_tuple T (pv 3)))))), ?_⟩
    obtain ⟨⟨a, dx, fs, tv, bv, rfl, ha', l1, l2, l3, ⟨ta, txs, rfl, hta, tpd⟩, ⟨bl, bxs, rfl, hbl, bpd⟩⟩, htok, hlen⟩ := hw
    obtain ⟨pa, xa, rfl, hpa, pda⟩ := ha
    obtain ⟨pb, xb, rfl, hpb, pdb⟩ := hb
    have la := oka.len
    have lb := okb.len
    refine ⟨by show 0 ≤ sizeLine; exact Nat.zero_le _, fun fl hfl => ?_⟩
    have s0 : Same H (upd H fl (.lst [])) := sm_new hfl
    generalize hH0 : upd H fl (.lst []) = H0 at s0
    have e0 : H0 fl = some (.lst []) := by rw [← hH0, upd_same]
    refine ⟨.ref a, rfl, a, C, dx, fs, .ref ta, rfl, s0 _ _ ha', W.isc.cl, W.nt, l1, .ref pa, rfl, .ref pb, rfl, .ref ta, .ref pa, .ref pb, .t, .t, .t, txs, xa, xb, rfl, ⟨ta, rfl, SqT.of (s0 _ _ hta)⟩, ⟨pa, rfl, SqT.of (s0 _ _ hpa)⟩, ⟨pb, rfl, SqT.of (s0 _ _ hpb)⟩, ?_⟩
    refine for_trs (H0 := H) (R := NatsT) (S := NatsT) (U := NatsT) (Rl := fun H' => Same H H') (fun H' v a s' r => stb_nats _ _ _ _ (kt s') r) (fun H' v a s' r => stb_nats _ _ _ _ (kt s') r) (fun H' v a s' r => stb_nats _ _ _ _ (kt s') r) (fun H1 H2 a b => a.trans b) (trips_zip tpd pda pdb) (by simp [pd_len tpd, pd_len pda, pd_len pdb]) (fun H' s' => ⟨⟨ta, rfl, SqT.of (s' _ _ hta)⟩, ⟨pa, rfl, SqT.of (s' _ _ hpa)⟩, ⟨pb, rfl, SqT.of (s' _ _ hpb)⟩⟩)
      (fun i σ H' => Same H H' ∧ (∃ x y z, σ = [some (.ref a), some (.ref pa), some (.ref pb), some (.ref fl), x, y, z]) ∧ ∃ acc Hh, H' fl = some (.lst acc) ∧ acc.length = i ∧ Paired (NatsT H') acc Hh ∧ IsHull (ts.take i) (Pa.take i) (Pb.take i) Hh) ⟨s0, ⟨_, _, _, rfl⟩, [], [], e0, rfl, .nil, trivial⟩ (fun i σ H' h => h.1) ?_ ?_
    · rintro i b v σ H1 H2 hb ⟨s1, ⟨x0, y0, z0, rfl⟩, acc, Hh, hacc, hal, hpd, hhull⟩ s2 hp
      refine g_trip hp fun x y z rx ry rz => ?_
      obtain ⟨hb1, hb2⟩ := List.getElem?_zip_eq_some.mp hb
      obtain ⟨hb2, hb3⟩ := List.getElem?_zip_eq_some.mp hb2
      have hA := pok_zip oka (b.1, b.2.1) (List.mem_iff_getElem?.mpr ⟨i, List.getElem?_zip_eq_some.mpr ⟨hb1, hb2⟩⟩)
      have hB := pok_zip okb (b.1, b.2.2) (List.mem_iff_getElem?.mpr ⟨i, List.getElem?_zip_eq_some.mpr ⟨hb1, hb3⟩⟩)
      have htm := List.mem_of_getElem? hb1
      have ht11 := tok_len htok htm
      have hlA := hangs_len hA
      have hlB := hangs_len hB
      simp only at hlA hlB
      obtain ⟨ya, yxs, rfl, hya, ypd⟩ := ry
      obtain ⟨za, zxs, rfl, hza, zpd⟩ := rz
      have hyx := nvs_of ypd
      have hzx := nvs_of zpd
      subst hyx hzx
      obtain ⟨b0, br, hb0⟩ := List.exists_cons_of_ne_nil hA.2.1
      obtain ⟨c0, cr, hc0⟩ := List.exists_cons_of_ne_nil hB.2.1
      simp only at hb0 hc0
      have e2 := s2 _ _ hacc
      refine ⟨.ref fl, rfl, .inl ⟨rfl, _, SqL.of e2⟩, x, rfl, .ref ya, rfl, .ref za, rfl, ya, za, nvs b.2.1, nvs b.2.2, rfl, rfl, SqT.of hya, SqT.of hza, ?_, fun hnil => ?_, fun _ hnil => ?_, fun _ _ p hp' => ?_⟩
      · rw [nvs_len, nvs_len, sizeLine_eq]; omega
      · rw [hb0] at hnil; cases hnil
      · rw [hc0] at hnil; cases hnil
      have s3 : Same H2 (upd H2 p (.tup (nvs b.2.1 ++ nvs b.2.2))) := sm_new hp'
      generalize hH3 : upd H2 p (.tup (nvs b.2.1 ++ nvs b.2.2)) = H3 at s3
      have e3 : H3 p = some (.tup (nvs (b0 :: (br ++ b.2.2)))) := by rw [← hH3, upd_same, ← nvs_app, hb0]; rfl
      refine ⟨x, .ref p, b.1, b0, br ++ b.2.2, rfl, stb_nats _ _ _ _ (kt s3) rx, htok _ htm, ⟨p, _, rfl, e3, nvs_pd _⟩, ?_, fun y hy => ?_, fun u' H4 h' s4 hu' hris hmem => ?_⟩
      · rw [List.length_append]; rw [hb0] at hlA; simp only [List.length_cons] at hlA; omega
      · have : y ∈ b.2.1 ++ b.2.2 := by rw [hb0]; exact hy
        rcases List.mem_append.mp this with h | h
        · exact hA.2.2.1 y h
        · exact hB.2.2.1 y h
      · have e4 := s4 _ _ (s3 _ _ e2)
        have hal' : acc.length ≤ 100 := by
          have := (List.getElem?_eq_some_iff.mp hb1).1
          omega
        refine ⟨fl, acc, u', rfl, rfl, e4, Nat.lt_of_le_of_lt hal' (by decide), ?_⟩
        have k5 : Kt H4 (upd H4 fl (.lst (acc ++ [u']))) := kt_lst e4
        refine ⟨sm_mut (((s1.trans s2).trans s3).trans s4) hfl, ⟨_, _, _, rfl⟩, _, Hh ++ [h'], upd_same, by rw [List.length_append, hal]; rfl, pd_app (stb_pairs stb_nats ((kt ((s2.trans s3).trans s4)).trans k5) hpd) (.cons (stb_nats _ _ _ _ k5 hu') .nil), ?_⟩
        rw [take_snoc hb1, take_snoc hb2, take_snoc hb3]
        refine hull_snoc hhull ⟨hris, fun z => ?_⟩
        rw [hmem z, hb0]
        rfl
    · rintro σ H1 ⟨s1, ⟨x0, y0, z0, rfl⟩, acc, Hh, hacc, hal, hpd, hhull⟩
      have hz : (ts.zip (Pa.zip Pb)).length = ts.length := by rw [List.length_zip, List.length_zip]; omega
      rw [hz] at hhull
      rw [List.take_length, List.take_of_length_le (by omega), List.take_of_length_le (by omega)] at hhull
      refine ⟨.ref fl, rfl, tuple_lst hacc fun l hl => ?_⟩
      exact q _ _ Hh (s1.trans (sm_new hl)) ⟨l, acc, rfl, upd_same, stb_pairs stb_nats (kt (sm_new hl)) hpd⟩ hhull
/-- places, tree by tree, that are as near as two branches are -/
def Nearest : Trs → Prt → Prt → List Nat → List Nat → Prop
  | t :: ts, a :: Pa, b :: Pb, x :: xs, y :: ys => (x ∈ a ∧ y ∈ b ∧ dist t x y = gap t a b) ∧ Nearest ts Pa Pb xs ys
  | [], [], [], [], [] => True
  | _, _, _, _, _ => False
theorem near_snoc : ∀ {ts : Trs} {Pa Pb : Prt} {xs ys : List Nat} {t a b : List Nat} {x y : Nat}, Nearest ts Pa Pb xs ys → x ∈ a → y ∈ b → dist t x y = gap t a b → Nearest (ts ++ [t]) (Pa ++ [a]) (Pb ++ [b]) (xs ++ [x]) (ys ++ [y])
  | [], [], [], [], [], _, _, _, _, _, _, h1, h2, h3 => ⟨⟨h1, h2, h3⟩, trivial⟩
  | _ :: _, _ :: _, _ :: _, _ :: _, _ :: _, _, _, _, _, _, h0, h1, h2, h3 => ⟨h0.1, near_snoc h0.2 h1 h2 h3⟩
def sp_nearest (C : Addr) : Sp := fun vs H Q _ => ∃ v u u2 ts Pa Pb, vs = [v, u, u2] ∧ WorldR C H v ts ∧ PartT H u Pa ∧ PartT H u2 Pb ∧ Pok ts Pa ∧ Pok ts Pb ∧ ∀ x H' xs ys, Same H H' → PairR NatsT NatsT H' x (xs, ys) → Nearest ts Pa Pb xs ys → Q x H'
theorem k_nearest (T : Tx mg) (W : WdOk K mg C) (W0 : Kn P w K mg base "check_two" 6 ["world", "one", "other"] (sp_check_two C)) (W1 : Kn P w K mg base "least_gap" 1 ["rows", "one", "other"] sp_least) (F : FnP K "nearest" s_nearest f fd) (g : mg "nearest" = some (.ref f)) : Kn P w K mg base "nearest" 7 ["world", "one", "other"] (sp_nearest C) := by
  refine kn_of F g (F.ok c_nearest (fun vs H Q E h => ?_) (fun cdv A outer s H vs Q E hr h => ?_)) (fun _ _ _ _ _ _ us hl => match us, hl with | [_, _, _], _ => rfl)
  · obtain ⟨v, u, u2, ts, Pa, Pb, rfl, _⟩ := h
    rfl
  · obtain ⟨v, u, u2, ts, Pa, Pb, rfl, hw, ha, hb, oka, okb, q⟩ := h
    have nd := c_nearest.nd
    refine ⟨_, PSs.nox (pss_cons (ps_expr (pe_kn W0 hr (pa_cons (pv 0) (pa_cons (pv 1) (pa_cons (pv 2) pa_nil))))) (pss_cons (ps_set (i := 3) nd rfl (.inl rfl) (pe_lst pa_nil))
      (pss_cons (ps_forG (g := gTup K 3 (gCons (gName 4) (gCons (gName 5) (gCons (gName 6) gNil)))) PassesOwn.never (pi_zip3 T.zip (pa_cons (pe_fld (pv 0) rfl) (pa_cons (pv 1) (pa_cons (pv 2) pa_nil)))) (pg_tup rfl (pgs_cons (pg_name (i := 4) nd rfl (.inl rfl) (.inl rfl)) (pgs_cons (pg_name (i := 5) nd rfl (.inl rfl) (.inl rfl)) (pgs_cons (pg_name (i := 6) nd rfl (.inl rfl) (.inl rfl)) pgs_nil))))
          (pss_one (ps_expr (pe_bm PySem.F.plainAttrs_list PySem.F.slot_list_append PySem.F.type_list_append mt_append (pv 3) (pa_cons (pe_kn W1 hr (pa_cons (pv 4) (pa_cons (pv 5) (pa_cons (pv 6) pa_nil)))) pa_nil)))))
      (pss_one (ps_ret (pe_tup (pa_cons (pe_tuple T (pe_lcm (own := [("step", 7)]) (g := gName 7) nd (pi_list (pv 3)) (blkOk_by (N := ["world", "one", "other", "found", "rows", "here", "there", "step"]) (sc := defScope s_nearest) (by decide +kernel)) (fun _ _ _ _ _ => pg_name (i := 7) nd rfl (.inl rfl) (.inr rfl))
          (te := tOp (rIxT K) (tVar 7) (tC (.int 1))) (fun _ _ _ _ _ => pe_ix ix_tup (pv 7) pe_int (fun _ _ => rfl))))
        (pa_cons (pe_tuple T (pe_lcm (own := [("step", 7)]) (g := gName 7) nd (pi_list (pv 3)) (blkOk_by (N := ["world", "one", "other", "found", "rows", "here", "there", "step"]) (sc := defScope s_nearest) (by decide +kernel)) (fun _ _ _ _ _ => pg_name (i := 7) nd rfl (.inl rfl) (.inr rfl))
          (te := tOp (rIxT K) (tVar 7) (tC (.int 2))) (fun _ _ _ _ _ => pe_ix ix_tup (pv 7) pe_int (fun _ _ => rfl)))) pa_nil)))))))), ?_⟩
    refine ⟨v, rfl, u, rfl, u2, rfl, v, u, u2, ts, Pa, Pb, rfl, hw, ha, oka, hb, okb, fun Hc sc => ?_⟩
    replace hw := hw.same sc
    replace ha := stb_part _ _ _ _ (kt sc) ha
    replace hb := stb_part _ _ _ _ (kt sc) hb
    obtain ⟨⟨a, dx, fs, tv, bv, rfl, ha', l1, l2, l3, ⟨ta, txs, rfl, hta, tpd⟩, ⟨bl, bxs, rfl, hbl, bpd⟩⟩, htok, hlen⟩ := hw
    obtain ⟨pa, xa, rfl, hpa, pda⟩ := ha
    obtain ⟨pb, xb, rfl, hpb, pdb⟩ := hb
    have la := oka.len
    have lb := okb.len
    refine ⟨by show 0 ≤ sizeLine; exact Nat.zero_le _, fun fl hfl => ?_⟩
    have s0 : Same Hc (upd Hc fl (.lst [])) := sm_new hfl
    generalize hH0 : upd Hc fl (.lst []) = H0 at s0
    have e0 : H0 fl = some (.lst []) := by rw [← hH0, upd_same]
    refine ⟨.ref a, rfl, a, C, dx, fs, .ref bl, rfl, s0 _ _ ha', W.isc.cl, W.nb, l2, .ref pa, rfl, .ref pb, rfl, .ref bl, .ref pa, .ref pb, .l, .t, .t, bxs, xa, xb, rfl, ⟨bl, rfl, SqL.of (s0 _ _ hbl)⟩, ⟨pa, rfl, SqT.of (s0 _ _ hpa)⟩, ⟨pb, rfl, SqT.of (s0 _ _ hpb)⟩, ?_⟩
    refine for_trs (H0 := Hc) (R := TabR) (S := NatsT) (U := NatsT) (Rl := fun H' => Same Hc H') (fun H' v a s' r => MatR.same s' r) (fun H' v a s' r => stb_nats _ _ _ _ (kt s') r) (fun H' v a s' r => stb_nats _ _ _ _ (kt s') r) (fun H1 H2 a b => a.trans b) (trips_zip bpd pda pdb) (by simp [pd_len bpd, pd_len pda, pd_len pdb]) (fun H' s' => ⟨⟨bl, rfl, SqL.of (s' _ _ hbl)⟩, ⟨pa, rfl, SqT.of (s' _ _ hpa)⟩, ⟨pb, rfl, SqT.of (s' _ _ hpb)⟩⟩)
      (fun i σ H' => Same Hc H' ∧ (∃ x y z u, σ = [some (.ref a), some (.ref pa), some (.ref pb), some (.ref fl), x, y, z, u]) ∧ ∃ acc, ∃ rows : List (Nat × Nat × Nat), H' fl = some (.lst acc) ∧ acc.length = i ∧ Paired (fun v r => NatsT H' v [r.1, r.2.1, r.2.2]) acc rows ∧ Nearest (ts.take i) (Pa.take i) (Pb.take i) (rows.map (·.2.1)) (rows.map (·.2.2))) ⟨s0, ⟨_, _, _, _, rfl⟩, [], [], e0, rfl, .nil, trivial⟩ (fun i σ H' h => h.1) ?_ ?_
    · rintro i b v σ H1 H2 hb ⟨s1, ⟨x0, y0, z0, u0, rfl⟩, acc, rows, hacc, hal, hpd, hnear⟩ s2 hp
      refine g_trip hp fun x y z rx ry rz => ?_
      obtain ⟨hb1, hb2⟩ := List.getElem?_zip_eq_some.mp hb
      obtain ⟨hb2, hb3⟩ := List.getElem?_zip_eq_some.mp hb2
      have hA := pok_zip oka (b.1, b.2.1) (List.mem_iff_getElem?.mpr ⟨i, List.getElem?_zip_eq_some.mpr ⟨hb1, hb2⟩⟩)
      have hB := pok_zip okb (b.1, b.2.2) (List.mem_iff_getElem?.mpr ⟨i, List.getElem?_zip_eq_some.mpr ⟨hb1, hb3⟩⟩)
      have ht11 := tok_len htok (List.mem_of_getElem? hb1)
      have hlA := hangs_len hA
      have hlB := hangs_len hB
      simp only at hlA hlB
      have e2 := s2 _ _ hacc
      refine ⟨.ref fl, rfl, .inl ⟨rfl, _, SqL.of e2⟩, x, rfl, y, rfl, z, rfl, x, y, z, b.1, b.2.1, b.2.2, rfl, rx, ry, rz, hA.2.1, hB.2.1, hA.2.2.1, hB.2.2.1, by omega, by omega, fun v H3 p1 p2 s3 hv m1 m2 m3 => ?_⟩
      have e3 := s3 _ _ e2
      have hal' : acc.length ≤ 100 := by
        have := (List.getElem?_eq_some_iff.mp hb1).1
        omega
      refine ⟨fl, acc, v, rfl, rfl, e3, Nat.lt_of_le_of_lt hal' (by decide), ?_⟩
      have k4 : Kt H3 (upd H3 fl (.lst (acc ++ [v]))) := kt_lst e3
      have k14 := (kt (s2.trans s3)).trans k4
      refine ⟨sm_mut ((s1.trans s2).trans s3) hfl, ⟨_, _, _, _, rfl⟩, _, rows ++ [(gap b.1 b.2.1 b.2.2, p1, p2)], upd_same, by rw [List.length_append, hal]; rfl, pd_app (Paired.mono (fun v r h => stb_nats _ _ _ _ k14 h) hpd) (.cons (stb_nats _ _ _ _ k4 hv) .nil), ?_⟩
      rw [take_snoc hb1, take_snoc hb2, take_snoc hb3, List.map_append, List.map_append]
      exact near_snoc hnear m1 m2 m3
    · rintro σ H1 ⟨s1, ⟨x0, y0, z0, u0, rfl⟩, acc, rows, hacc, hal, hpd, hnear⟩
      have hz : (ts.zip (Pa.zip Pb)).length = ts.length := by rw [List.length_zip, List.length_zip]; omega
      rw [hz] at hnear hal
      rw [List.take_length, List.take_of_length_le (by omega), List.take_of_length_le (by omega)] at hnear
      have stR : Stb (fun H v (r : Nat × Nat × Nat) => NatsT H v [r.1, r.2.1, r.2.2]) := fun H H' v a k r => stb_nats _ _ _ _ k r
      have hrl : rows.length ≤ 4 := by rw [← pd_len hpd]; omega
      refine ⟨.ref fl, rfl, fl, rfl, ⟨_, SqL.of hacc⟩, ?_⟩
      refine lc_lstP stR (Stb.d stb_nat) hacc hpd (by omega) (fun r => r.2.1) (fun D r x H2 Kn _ hr s2 rx kn => ⟨rfl, ?_⟩) (fun D1 ys1 H2 hD1 s2 e2 p2 => ?_)
      · obtain ⟨xa, xxs, rfl, hxa, xpd⟩ := rx
        have hxx := nvs_of xpd
        subst hxx
        exact ⟨.ref xa, rfl, xa, _, 1, .int (r.2.1 : Int), rfl, rfl, SqT.of hxa, rfl, kn _ H2 (Same.refl H2) rfl⟩
      · refine tuple_lst e2 fun l1 hl1 => ?_
        have s3 := sm_new (H := H2) (o := .tup ys1) hl1
        generalize hH3 : upd H2 l1 (.tup ys1) = H3 at s3
        have e3 : H3 l1 = some (.tup ys1) := by rw [← hH3, upd_same]
        have hacc3 := s3 _ _ (s2 _ _ hacc)
        refine ⟨.ref fl, rfl, fl, rfl, ⟨_, SqL.of hacc3⟩, ?_⟩
        refine lc_lstP stR (Stb.d stb_nat) hacc3 (stb_pairs stR (kt (s2.trans s3)) hpd) (by omega) (fun r => r.2.2) (fun D r x H4 Kn _ hr s4 rx kn => ⟨rfl, ?_⟩) (fun D2 ys2 H4 hD2 s4 e4 p4 => ?_)
        · obtain ⟨xa, xxs, rfl, hxa, xpd⟩ := rx
          have hxx := nvs_of xpd
          subst hxx
          exact ⟨.ref xa, rfl, xa, _, 2, .int (r.2.2 : Int), rfl, rfl, SqT.of hxa, rfl, kn _ H4 (Same.refl H4) rfl⟩
        · refine tuple_lst e4 fun l2 hl2 => ?_
          have s5 := sm_new (H := H4) (o := .tup ys2) hl2
          generalize hH5 : upd H4 l2 (.tup ys2) = H5 at s5
          have e5 : H5 l2 = some (.tup ys2) := by rw [← hH5, upd_same]
          refine ⟨by show 2 ≤ sizeLine; decide, fun l3 hl3 => ?_⟩
          have s6 := sm_new (H := H5) (o := .tup [.ref l1, .ref l2]) hl3
          have s46 := (s4.trans s5).trans s6
          refine q _ _ _ _ ((((sc.trans s1).trans s2).trans s3).trans s46) ⟨l3, .ref l1, .ref l2, rfl, upd_same, ⟨l1, ys1, rfl, s46 _ _ e3, stb_pairs stb_nat (kt (s3.trans s46)) p2⟩, ⟨l2, ys2, rfl, s6 _ _ e5, stb_pairs stb_nat (kt (s5.trans s6)) p4⟩⟩ hnear
end
end Jr
set_option Elab.async false
set_option linter.all false
set_option maxRecDepth 100000
set_option maxHeartbeats 4000000
namespace Jr
open PySem PySem.Spec PyProof.Rows L2
abbrev SIGNS : Str := "abcdefghijklmnopqrstuvwxyz"
structure NameOk (z : Str) : Prop where
  pos : 0 < z.length
  few : z.length ≤ 8
  sign : ∀ c ∈ z.cps.toList, c ∈ SIGNS.cps.toList
structure aLenS (xs : List V) (H : Hp) (Q : VK) : Prop where
  ex : ∃ z : Str, xs = [.str z] ∧ z.length ≤ sizeLine ∧ Q (.int z.length) H
theorem pe_lenS {X : Cx} {e : Expr} {te : TE} {p1 pos : Pos} (T : Tx X.mg) (he : PE X e te) (hg : Gl X "len" := by rfl) (h1 : starEach [e] X.env = (false, eval e X.env) :: starEach [] X.env := by rfl) :
    PE X (.Call (.Name "len" p1) [e] [] pos) (tCB aLenS (tCons te tNil)) :=
  pe_callB (callR_of call_len fun _ _ _ h => let ⟨z, e, hz, q⟩ := h.ex; ⟨.str z, z.length, e, ⟨hz, rfl⟩, q⟩) hg T.len boot_len (pa_cons he pa_nil h1) (by decide) (by decide) h1 rfl
structure rSign (x y : V) (H : Hp) (Q : VK) : Prop where
  ex : ∃ (c : Nat) (z : Str), x = .str ⟨#[c]⟩ ∧ y = .str z ∧ Q (.bl (decide (c ∈ z.cps.toList))) H
theorem op_sign {X : Cx} : OpR X (compareOp .In) rSign := fun pins s σ H x y v u Q I rx ry h => op_in_sign pins s σ H x y v u Q I rx ry h.ex
section
variable {P : Program} {w : World} {K : PySem.W.Frag} {mg : Str → Option Value} {base : Heap} {f : Addr} {fd : FuncData} {C : Addr}
def sp_is_name : Sp := fun vs H Q _ => ∃ z : Str, vs = [.str z] ∧ NameOk z ∧ ∀ H', Same H H' → Q (.bl true) H'
theorem k_is_name (T : Tx mg) (F : FnP K "is_name" s_is_name f fd) (g : mg "is_name" = some (.ref f)) : Kn P w K mg base "is_name" 1 ["thing"] sp_is_name := by
  refine kn_of F g (F.ok c_is_name (fun vs H Q E h => ?_) (fun cdv A outer s H vs Q E hr h => ?_)) (fun _ _ _ _ _ _ us hl => match us, hl with | [_], _ => rfl)
  · obtain ⟨z, rfl, _⟩ := h
    rfl
  · obtain ⟨z, rfl, hz, q⟩ := h
    have nd := c_is_name.nd
    obtain ⟨ts, hS⟩ := T.SIGNS
    refine ⟨_, PSs.nox (pss_one (ps_ret (pe_and (pe_isi T (pv 0) T.str boot_str) (pe_and (pe_chain op_lt op_le pe_int (pe_lenS T (pv 0)) (pe_con1 T.MOST_SIGNS))
      (pe_one (pe_all T (pe_lcm (own := [("sign", 1)]) (g := gName 1) nd (pi_str (pv 0)) (blkOk_by (N := ["thing", "sign"]) (sc := defScope s_is_name) (by decide +kernel)) (fun _ _ _ _ _ => pg_name (i := 1) nd rfl (.inl rfl) (.inr rfl))
        (te := tOp rSign (tVar 1) (tC (.str SIGNS))) (fun _ _ _ _ _ => pe_cmpR op_sign (pv 1) (pe_glob (v := .str SIGNS) (by rfl) hS ⟨ts, rfl⟩) rfl)))))))), ?_⟩
    refine ⟨.str z, rfl, isi_ans (.base (.str z)) kit_eq ⟨true, rfl, ?_⟩⟩
    refine ⟨.str z, rfl, ⟨⟨z, rfl, Nat.le_trans hz.few (by decide), 0, z.length, rfl, rfl, _, rfl, ?_⟩⟩⟩
    rw [if_pos (decide_eq_true (by have := hz.pos; omega))]
    refine ⟨z.length, 8, rfl, rfl, _, rfl, ?_⟩
    rw [decide_eq_true (by have := hz.few; omega), if_pos rfl]
    refine ⟨.str z, rfl, z, rfl, ?_⟩
    refine lc_map walk_str z.cps.toList (Array.length_toList ..).symm ?_ (Stb.d stb_bl) (fun _ => true) (fun _ _ => trivial) ?_ ?_
    · rw [Array.length_toList]; exact Nat.le_trans hz.few (by decide)
    · rintro D i c x H1 H2 Kn hD hacc hc s1 ⟨rfl, c', hc', rfl⟩ kn
      rw [Array.getElem?_toList, hc'] at hc
      cases hc
      refine ⟨rfl, _, rfl, ⟨⟨c, SIGNS, rfl, rfl, ?_⟩⟩⟩
      rw [decide_eq_true (hz.sign c (by rw [← Array.getElem?_toList] at hc'; exact List.mem_of_getElem? hc'))]
      exact kn _ H2 (Same.refl _) rfl
    · intro D ys H2 hD s2 e2 p2
      refine all_ans e2 p2 ?_
      rw [map_true fun _ _ => rfl]
      exact q H2 s2
/-! ### books -/
abbrev BookT : Rp (List (Str × Prt)) := TupOf RowT
theorem stb_book : Stb BookT := stb_tup stb_row
structure BookOk (ts : Trs) (rows : List (Str × Prt)) : Prop where
  few : rows.length ≤ 24
  nms : ∀ r ∈ rows, NameOk r.1
  pok : ∀ r ∈ rows, Pok ts r.2
  nd : (rows.map (·.1)).Nodup
def sp_first_wrong (C : Addr) : Sp := fun vs H Q _ => ∃ v u ts rows, vs = [v, u] ∧ WorldR C H v ts ∧ BookT H u rows ∧ BookOk ts rows ∧ ∀ H', Same H H' → Q .non H'
theorem k_first_wrong (T : Tx mg) (W0 : Kn P w K mg base "is_name" 1 ["thing"] sp_is_name) (W1 : Kn P w K mg base "is_part" 5 ["world", "thing"] (sp_is_part C)) (F : FnP K "first_wrong" s_first_wrong f fd) (g : mg "first_wrong" = some (.ref f)) : Kn P w K mg base "first_wrong" 6 ["world", "rows"] (sp_first_wrong C) := by
  refine kn_of F g (F.ok c_first_wrong (fun vs H Q E h => ?_) (fun cdv A outer s H vs Q E hr h => ?_)) (fun _ _ _ _ _ _ us hl => match us, hl with | [_, _], _ => rfl)
  · obtain ⟨v, u, ts, rows, rfl, _⟩ := h
    rfl
  · obtain ⟨v, u, ts, rows, rfl, hw, hu, hok, q⟩ := h
    have nd := c_first_wrong.nd
    refine ⟨_, PSs.nox (pss_cons (ps_set (i := 2) nd rfl (.inl rfl) (pe_callTy0 (r := rSet0K P w) cr_set0K (by rfl) T.set PyProof.Rows.boot_set))
      (pss_cons (ps_forG (g := gTup K 2 (gCons (gName 3) (gCons (gName 4) gNil))) PassesOwn.never (pi_en T.enumerate (pa_cons (pv 1) pa_nil)) (pg_tup rfl (pgs_cons (pg_name (i := 3) nd rfl (.inl rfl) (.inl rfl)) (pgs_cons (pg_name (i := 4) nd rfl (.inl rfl) (.inl rfl)) pgs_nil)))
        (pss_cons (ps_if (PW.pt (pw_or (pt_cmpR op_eq (pv 3) (pe_con1 T.MOST_NAMES) (nomark _)) (pw_or (pt_not (pt_val (pe_isi T (pv 4) T.tuple boot_tuple))) (pw_or1 (pt_cmpR op_ne (pe_len T (pv 4)) pe_int (nomark _)))))) (pss_one (ps_ret (pv 3))) pss_nil)
        (pss_cons (ps_asg (pv 4) (pg_tup (n := 2) rfl (pgs_cons (pg_name (i := 5) nd rfl (.inl rfl) (.inl rfl)) (pgs_cons (pg_name (i := 6) nd rfl (.inl rfl) (.inl rfl)) pgs_nil))))
        (pss_cons (ps_if (PW.pt (pw_or (pt_not (pt_val (pe_kn W0 hr (pa_cons (pv 5) pa_nil)))) (pw_or (pt_cmpR (r := rSInK P w false) or_sinK (pv 5) (pv 2) rfl) (pw_or1 (pt_not (pt_val (pe_kn W1 hr (pa_cons (pv 0) (pa_cons (pv 6) pa_nil))))))))) (pss_one (ps_ret (pv 3))) pss_nil)
        (pss_one (ps_expr (show PE _ _ (tSAddK P w (tVar 2) (tCons (tVar 5) tNil)) from pe_saddK (pv 2) (pa_cons (pv 5) pa_nil))))))))
      (pss_one (ps_ret pe_non)))), ?_⟩
    refine ⟨rfl, fun np hnp => ?_⟩
    have s0 : Same H (upd H np (SetK P w np (fun _ => false) 0)) := sm_new hnp
    generalize hH0 : upd H np (SetK P w np (fun _ => false) 0) = H0 at s0
    have e0 : H0 np = some (SetK P w np (fun _ => false) 0) := by rw [← hH0, upd_same]
    obtain ⟨ua, uxs, rfl, hua, updd⟩ := hu
    refine ⟨.ref ua, rfl, .ref ua, .t, uxs, rfl, ⟨ua, rfl, SqT.of (s0 _ _ hua)⟩, ?_⟩
    refine for_prs (H0 := H) (R := NatR) (S := RowT) (Rl := fun H' => Same H H') (fun H' v a _ r => r) (fun H' v a s' r => stb_row _ _ _ _ (kt s') r) (fun H1 H2 a b => a.trans b) (pairs_en updd) (by simp [pd_len updd]) (fun H' s' => ⟨ua, rfl, SqT.of (s' _ _ hua)⟩)
      (fun i σ H' => Same H H' ∧ (∃ x y z t, σ = [some v, some (.ref ua), some (.ref np), x, y, z, t]) ∧ ∃ S n, H' np = some (SetK P w np S n) ∧ n ≤ i ∧ ∀ k, S k = true → ∃ r ∈ rows.take i, k = Sum.inr r.1) ⟨s0, ⟨_, _, _, _, rfl⟩, _, 0, e0, Nat.le_refl _, fun k h => by simp at h⟩ (fun i σ H' h => h.1) ?_ ?_
    · rintro i b vv σ H1 H2 hb ⟨s1, ⟨x0, y0, z0, t0, rfl⟩, S, n, hS, hn, hmem⟩ s2 hp
      refine g_pair hp fun x y rx ry => ?_
      obtain ⟨hb1, hb2⟩ := List.getElem?_zip_eq_some.mp hb
      have hil : i < rows.length := (List.getElem?_eq_some_iff.mp hb2).1
      have hbi : i = b.1 := by
        rw [List.getElem?_range hil] at hb1
        simpa using hb1
      have hrm := List.mem_of_getElem? hb2
      have rx' : x = .int (b.1 : Int) := rx
      subst rx'
      have e2 := s2 _ _ hS
      obtain ⟨ra, nx, px, rfl, hra, hnx, hpx⟩ := ry
      have hnx' : nx = .str b.2.1 := hnx
      subst hnx'
      have hfew := hok.few
      refine ⟨_, rfl, rfl, _, rfl, ?_⟩
      have hne24 : V.int (b.1 : Int) ≠ V.int 24 := fun h => by injection h with h; omega
      rw [decide_eq_false hne24]
      refine iteF ⟨.ref ra, rfl, isi_tup hra ⟨true, rfl, iteF ⟨.ref ra, rfl, len_tup hra (n := 2) rfl ⟨rfl, _, rfl, ?_⟩⟩⟩⟩
      rw [decide_eq_true (show V.int ((2 : Nat) : Int) = V.int 2 from rfl)]
      refine iteF ?_
      refine ⟨.ref ra, rfl, ra, _, rfl, SqT.of hra, rfl, _, _, rfl, _, _, rfl, rfl, ?_⟩
      refine ⟨_, rfl, b.2.1, rfl, hok.nms _ hrm, fun H3 s3 => ⟨true, rfl, iteF ?_⟩⟩
      have e3 := s3 _ _ e2
      refine ⟨_, rfl, _, rfl, Sum.inr b.2.1, np, S, n, rfl, rfl, e3, _, rfl, ?_⟩
      have hSf : S (Sum.inr b.2.1) = false := by
        cases e : S (Sum.inr b.2.1) with
        | false => rfl
        | true =>
          obtain ⟨r, hr', er⟩ := hmem _ e
          obtain ⟨j, hj, ej⟩ := List.getElem_of_mem hr'
          rw [List.length_take] at hj
          have hji : j < i := by omega
          have hjl : j < rows.length := by omega
          rw [List.getElem_take] at ej
          have h1 := hok.nd
          rw [List.nodup_iff_pairwise_ne, List.pairwise_map] at h1
          have h2 := List.pairwise_iff_getElem.mp h1 j i hjl hil hji
          have h3 : rows[i] = b.2 := by
            have := List.getElem?_eq_getElem hil
            rw [hb2] at this
            exact (Option.some.inj this).symm
          injection er with er
          exact absurd (by rw [ej, h3]; exact er.symm) h2
      rw [if_neg (by decide), hSf]
      refine iteF ⟨v, rfl, px, rfl, v, px, ts, b.2.2, rfl, hw.same (((s1.trans s2).trans s3)), stb_part _ _ _ _ (kt s3) hpx, hok.pok _ hrm, fun H4 s4 => ⟨true, rfl, iteF ?_⟩⟩
      have e4 := s4 _ _ e3
      refine ⟨.ref np, rfl, ⟨np, S, n, rfl, e4⟩, _, rfl, np, Sum.inr b.2.1, S, n, rfl, rfl, e4, by unfold scanBound; omega, ?_⟩
      refine ⟨sm_mut (((s1.trans s2).trans s3).trans s4) hnp, ⟨_, _, _, _, rfl⟩, _, _, upd_same, ?_, fun k hk => ?_⟩
      · rw [hSf]; simp; omega
      · rw [Bool.or_eq_true] at hk
        rw [take_snoc hb2]
        rcases hk with hk | hk
        · obtain ⟨r, hr', er⟩ := hmem k hk
          exact ⟨r, List.mem_append_left _ hr', er⟩
        · exact ⟨b.2, List.mem_append_right _ (List.mem_singleton.mpr rfl), of_decide_eq_true hk⟩
    · rintro σ H1 ⟨s1, _⟩
      exact q H1 s1
def sp_check_book (C : Addr) : Sp := sp_first_wrong C
theorem k_check_book (T : Tx mg) (W0 : Kn P w K mg base "first_wrong" 6 ["world", "rows"] (sp_first_wrong C)) (F : FnP K "check_book" s_check_book f fd) (g : mg "check_book" = some (.ref f)) : Kn P w K mg base "check_book" 7 ["world", "thing"] (sp_check_book C) := by
  refine kn_of F g (F.ok c_check_book (fun vs H Q E h => ?_) (fun cdv A outer s H vs Q E hr h => ?_)) (fun _ _ _ _ _ _ us hl => match us, hl with | [_, _], _ => rfl)
  · obtain ⟨v, u, ts, rows, rfl, _⟩ := h
    rfl
  · obtain ⟨v, u, ts, rows, rfl, hw, hu, hok, q⟩ := h
    have nd := c_check_book.nd
    refine ⟨_, PSs.nox (pss_cons (ps_if (PW.pt (pw_or (pt_not (pt_val (pe_isi T (pv 1) T.tuple boot_tuple))) (pw_or1 (pt_cmpR op_gt (pe_len T (pv 1)) (pe_con1 T.MOST_NAMES) (nomark _))))) pss_never pss_nil)
      (pss_cons (ps_set (i := 2) nd rfl (.inl rfl) (pe_kn W0 hr (pa_cons (pv 0) (pa_cons (pv 1) pa_nil)))) (pss_one (ps_if (pt_cmpR op_notN (pv 2) pe_non (nomark _)) pss_never pss_nil)))), ?_⟩
    have hu0 := hu
    obtain ⟨ua, uxs, rfl, hua, updd⟩ := hu
    have hfew := hok.few
    refine ⟨.ref ua, rfl, isi_tup hua ⟨true, rfl, iteF ⟨.ref ua, rfl, len_tup hua (pd_len updd) ⟨_, _, rfl, rfl, _, rfl, ?_⟩⟩⟩⟩
    rw [decide_eq_false (by omega)]
    refine iteF ⟨v, rfl, .ref ua, rfl, v, .ref ua, ts, rows, rfl, hw, hu0, hok, fun H1 s1 => ?_⟩
    refine ⟨.non, rfl, rfl, _, rfl, ?_⟩
    rw [decide_eq_true rfl]
    exact iteF (q H1 s1)
def sp_part_of : Sp := fun vs H Q _ => ∃ u ts rows, ∃ z : Str, ∃ Pa, vs = [u, .str z] ∧ BookT H u rows ∧ BookOk ts rows ∧ (z, Pa) ∈ rows ∧ ∀ x H', Same H H' → PartT H' x Pa → Q x H'
theorem k_part_of (T : Tx mg) (W0 : Kn P w K mg base "is_name" 1 ["thing"] sp_is_name) (F : FnP K "part_of" s_part_of f fd) (g : mg "part_of" = some (.ref f)) : Kn P w K mg base "part_of" 2 ["book", "name"] sp_part_of := by
  refine kn_of F g (F.ok c_part_of (fun vs H Q E h => ?_) (fun cdv A outer s H vs Q E hr h => ?_)) (fun _ _ _ _ _ _ us hl => match us, hl with | [_, _], _ => rfl)
  · obtain ⟨u, ts, rows, z, Pa, rfl, _⟩ := h
    rfl
  · obtain ⟨u, ts, rows, z, Pa, rfl, hu, hok, hm, q⟩ := h
    have nd := c_part_of.nd
    refine ⟨_, PSs.nox (pss_cons (ps_if (pt_not (pt_val (pe_kn W0 hr (pa_cons (pv 1) pa_nil)))) pss_never pss_nil)
      (pss_cons (ps_lcf (own := [("own", 3), ("part", 4)]) (i := 2) (g := gTup K 2 (gCons (gName 3) (gCons (gName 4) gNil))) (tt := tTest (tOp rEq (tVar 3) (tVar 1))) (te := tVar 4) nd rfl rfl (sw_true rfl rfl rfl (by decide +kernel)) (pi_tup (pv 0)) (blkOk_by (N := ["book", "name", "found", "own", "part"]) (sc := defScope s_part_of) (by decide +kernel))
          (fun _ _ _ _ _ => pg_tup rfl (pgs_cons (pg_name (i := 3) nd rfl (.inl rfl) (.inr rfl)) (pgs_cons (pg_name (i := 4) nd rfl (.inl rfl) (.inr rfl)) pgs_nil))) (fun _ _ _ _ _ => pt_cmpR op_eq (pv 3) (pv 1) (nomark _)) (fun _ _ _ _ _ => pv 4))
      (pss_cons (ps_if (pt_cmpR (op_eqR (hu64 hr)) (pv 2) (pe_lst pa_nil) (nomark _)) pss_never pss_nil)
      (pss_one (ps_ret (pe_ix ix_list (pv 2) pe_int (fun _ _ => rfl))))))), ?_⟩
    have hfew := hok.few
    refine ⟨_, rfl, z, rfl, hok.nms _ hm, fun H1 s1 => ⟨true, rfl, iteF ?_⟩⟩
    obtain ⟨ua, uxs, rfl, hua, updd⟩ := stb_book _ _ _ _ (kt s1) hu
    refine ⟨.ref ua, rfl, ua, rfl, ⟨_, SqT.of hua⟩, ?_⟩
    refine lc_sel walk_tup rows (pd_len updd) (by omega) (Stb.d stb_part) (fun r => decide (r.1 = z)) (fun r => r.2) (fun H' s' => SqT.of (s' _ _ hua)) ?_ ?_
    · rintro D i r x H2 H2' Kn Ks hD hacc hr' s2 ⟨rfl, hx⟩ kn ks
      obtain ⟨r', hr2, rr⟩ := pd_get updd hx
      rw [hr'] at hr2
      cases hr2
      refine g_pair (stb_row _ _ _ _ (kt s2) rr) fun nx px hnx hpx => ⟨rfl, ?_⟩
      have hnx' : nx = .str r.1 := hnx
      subst hnx'
      refine ⟨_, rfl, _, rfl, rfl, _, rfl, ?_⟩
      by_cases e : r.1 = z
      · rw [decide_eq_true (by rw [e])]
        exact iteT ⟨px, rfl, kn (decide_eq_true e) px H2' (Same.refl _) hpx⟩
      · rw [decide_eq_false (fun h => e (by injection h))]
        exact iteF (ks (decide_eq_false e) H2' (Same.refl _))
    · intro D ys H2 hD s2 e2 p2
      have hf : (rows.filter fun r => decide (r.1 = z)).map (·.2) = [Pa] := by
        have hnd := hok.nd
        have : ∀ l : List (Str × Prt), (l.map (·.1)).Nodup → (z, Pa) ∈ l → (l.filter fun r => decide (r.1 = z)).map (·.2) = [Pa] := by
          intro l
          induction l with
          | nil => intro _ h; simp at h
          | cons a l ih =>
            intro hn h
            rw [List.map_cons, List.nodup_cons] at hn
            rcases List.mem_cons.mp h with h | h
            · subst h
              have h2 : l.filter (fun r => decide (r.1 = z)) = [] := by
                rw [List.filter_eq_nil_iff]
                intro r hr' hz
                exact hn.1 (List.mem_map.mpr ⟨r, hr', of_decide_eq_true hz⟩)
              simp [List.filter_cons, h2]
            · have hne : a.1 ≠ z := fun e => hn.1 (List.mem_map.mpr ⟨_, h, e.symm⟩)
              simp [List.filter_cons, hne, ih hn.2 h]
        exact this rows hnd hm
      rw [hf] at p2
      cases p2 with
      | cons hx rest =>
        cases rest
        rename_i x
        refine ⟨.ref D, rfl, by show 0 ≤ sizeLine; exact Nat.zero_le _, fun e0 he0 => ?_⟩
        have s3 : Same H2 (upd H2 e0 (.lst [])) := sm_new he0
        generalize hH3 : upd H2 e0 (.lst []) = H3 at s3
        have e3 : H3 e0 = some (.lst []) := by rw [← hH3, upd_same]
        have hx3 := stb_part _ _ _ _ (kt s3) hx
        refine eq_R (R := LstOf PartT) (S := LstOf PartT) (encL (encT (encT encN))) (by decide) (dp_lst (dp_tup (dp_tup dp_nat))) (dp_lst (dp_tup (dp_tup dp_nat))) (a := [Pa]) (b := []) ⟨D, _, rfl, s3 _ _ e2, .cons hx3 .nil⟩ ⟨e0, _, rfl, e3, .nil⟩ ⟨_, rfl, ?_⟩
        rw [decide_eq_false (by simp)]
        refine iteF ⟨.ref D, rfl, D, _, 0, x, rfl, rfl, SqL.of (s3 _ _ e2), rfl, ?_⟩
        exact q x H3 ((s1.trans s2).trans s3) hx3
def sp_check_reach : Sp := fun vs H Q _ => ∃ i : Int, vs = [.int i] ∧ 0 ≤ i ∧ i ≤ 48 ∧ Q .non H
theorem k_check_reach (T : Tx mg) (W : Kn P w K mg base "is_within" 2 ["thing", "low", "high"] sp_is_within) (F : FnP K "check_reach" s_check_reach f fd) (g : mg "check_reach" = some (.ref f)) : Kn P w K mg base "check_reach" 3 ["thing"] sp_check_reach := by
  refine kn_of F g (F.ok c_check_reach (fun vs H Q E h => ?_) (fun cdv A outer s H vs Q E hr h => ?_)) (fun _ _ _ _ _ _ us hl => match us, hl with | [_], _ => rfl)
  · obtain ⟨i, rfl, _⟩ := h
    rfl
  · obtain ⟨i, rfl, h0, h48, q⟩ := h
    refine ⟨_, PSs.nox (pss_one (ps_if (pt_not (pt_val (pe_kn W hr (pa_cons (pv 0) (pa_cons pe_int (pa_cons (pe_con1 T.MOST_REACH) pa_nil)))))) pss_never pss_nil)), ?_⟩
    refine ⟨_, rfl, i, 0, 48, rfl, ?_⟩
    rw [decide_eq_true (by omega)]
    exact ⟨true, rfl, iteF q⟩
end
end Jr
set_option Elab.async false
set_option linter.all false
set_option maxRecDepth 100000
set_option maxHeartbeats 4000000
namespace Jr
open PySem PySem.Spec PyProof.Rows L2
structure rNotInR (K : PySem.W.Frag) (x y : V) (H : Hp) (Q : VK) : Prop where
  ex : rNotInD K x y H Q
theorem op_notInR {X : Cx} (hu : X.A.units + 65 < cLine) : OpR X (compareOp .NotIn) (rNotInR X.K) := fun pins s σ H x y v u Q I rx ry h => op_notInD hu pins s σ H x y v u Q I rx ry h.ex
theorem any_enc {α : Type} [DecidableEq α] {enc : α → PyData} {d : Nat} (e : EncOk enc d) (a : α) (as : List α) : ((as.map enc).any fun z => PyData.eqv z (enc a)) = decide (a ∈ as) := by
  rw [List.any_map, Bool.eq_iff_iff, List.any_eq_true, decide_eq_true_eq]
  constructor
  · rintro ⟨x, hx, h⟩
    have h' : PyData.eqv (enc x) (enc a) = true := h
    rw [e.eq] at h'
    exact of_decide_eq_true h' ▸ hx
  · intro h
    exact ⟨a, h, by show PyData.eqv (enc a) (enc a) = true; rw [e.eq]; exact decide_eq_true rfl⟩
theorem notin_R {α : Type} [DecidableEq α] {enc : α → PyData} {d : Nat} {K : PySem.W.Frag} {R : Rp α} {H : Hp} {x y : V} {a : α} {as : List α} {Q : VK} (e : EncOk enc d) (hd : d ≤ 60) (p : DpR K R enc) (r : R H x a) (r' : LstOf R H y as) (q : ∀ bb : Bool, (bb = true ↔ a ∉ as) → Q (.bl bb) H) : rNotInR K x y H Q :=
  ⟨⟨enc a, as.map enc, p _ _ _ r, dp_lst p _ _ _ r', e.shaped (by omega) a, (encL e).shaped (by omega) as, by rw [any_enc e]; exact q _ (by simp)⟩⟩
theorem pop_last {α β : Type} {F : α → β → Prop} {xs : List α} {as : List β} {b : β} (p : Paired F xs (as ++ [b])) : ∃ ys y, xs = ys ++ [y] ∧ Paired F ys as ∧ F y b := by
  have hl := pd_len p
  have h1 := pd_take as.length p
  have h2 := pd_drop as.length p
  rw [List.take_left' rfl] at h1
  rw [List.drop_left' rfl] at h2
  refine ⟨xs.take as.length, ?_⟩
  generalize hd : xs.drop as.length = zs at h2
  cases h2 with
  | cons r t =>
    cases t
    exact ⟨_, by rw [← hd, List.take_append_drop], h1, r⟩
theorem filt_in {α : Type} (l : List α) (b : α → Bool) [∀ M, Decidable (M ∈ l.filter b)] : l.filter (fun M => !decide (M ∈ l.filter b)) = l.filter fun M => !b M := by
  refine List.filter_congr fun M hM => ?_
  congr 1
  rw [Bool.eq_iff_iff, decide_eq_true_eq, List.mem_filter]
  exact ⟨fun h => h.2, fun h => ⟨hM, h⟩⟩
theorem filt_lt {α : Type} {l : List α} {b : α → Bool} (h : l.filter b ≠ []) : (l.filter fun M => !b M).length < l.length := by
  obtain ⟨x, hx⟩ := List.exists_mem_of_ne_nil _ h
  obtain ⟨h1, h2⟩ := List.mem_filter.mp hx
  exact List.length_filter_lt_length_iff_exists.mpr ⟨x, h1, by simp [h2]⟩
section
variable {P : Program} {w : World} {K : PySem.W.Frag} {mg : Str → Option Value} {base : Heap} {f : Addr} {fd : FuncData} {C : Addr}
abbrev PartsT : Rp (List Prt) := TupOf PartT
theorem stb_parts : Stb PartsT := stb_tup stb_part
def sp_closed (C : Addr) : Sp := fun vs H Q _ => ∃ v u ts ps, ∃ R : Nat, vs = [v, u, .int (R : Int)] ∧ WorldR C H v ts ∧ (LstOf PartT H u ps ∨ PartsT H u ps) ∧ (∀ p ∈ ps, Pok ts p) ∧ ps.length ≤ 60 ∧ ∀ x H' kin, Same H H' → PartsT H' x kin → Clo ts R ps kin → kin.length ≤ ps.length → Q x H'
theorem k_closed (T : Tx mg) (W1 : Kn P w K mg base "part_far" 2 ["world", "one", "other"] (sp_part_far C)) (W2 : Kn P w K mg base "part_hull" 4 ["world", "one", "other"] (sp_part_hull C)) (F : FnP K "closed" s_closed f fd) (g : mg "closed" = some (.ref f)) : Kn P w K mg base "closed" 5 ["world", "parts", "reach"] (sp_closed C) := by
  refine kn_of F g (F.ok c_closed (fun vs H Q E h => ?_) (fun cdv A outer s H vs Q E hr h => ?_)) (fun _ _ _ _ _ _ us hl => match us, hl with | [_, _, _], _ => rfl)
  · obtain ⟨v, u, ts, ps, R, rfl, _⟩ := h
    rfl
  · obtain ⟨v, u, ts, ps, R, rfl, hw, hu, hpok, hp60, q⟩ := h
    have nd := c_closed.nd
    refine ⟨_, PSs.nox (pss_cons (ps_par (i := 3) (j := 4) rfl nd rfl rfl (by decide) rfl rfl (pa_cons (pe_list T (pv 1)) (pa_cons (pe_lst pa_nil) pa_nil)) (by rfl))
      (pss_cons (ps_while PassesOwn.never (pt_truth (pv 3) (fun _ => rfl))
        (pss_cons (ps_set (i := 5) nd rfl (.inr rfl) (pe_bm0 PySem.F.plainAttrs_list PySem.F.slot_list_pop PySem.F.type_list_pop mt_pop (pv 3)))
        (pss_cons (ps_set (i := 6) nd rfl (.inr rfl) (pe_lcf (own := [("other", 7)]) (g := gName 7) (tt := tTest (tOp (rI0 fun i j => .bl (decide (i ≤ j))) (tCall (sp_part_far C) [] E0 (tCons (tVar 0) (tCons (tVar 5) (tCons (tVar 7) tNil)))) (tVar 2))) (te := tVar 7) nd (pi_list (pv 4)) (blkOk_by (N := ["world", "parts", "reach", "waiting", "found", "part", "near", "other"]) (sc := defScope s_closed) (by decide +kernel))
            (fun _ _ _ _ _ => pg_name (i := 7) nd rfl (.inl rfl) (.inr rfl)) (fun _ _ _ _ _ => pt_cmpR op_le (pe_kn W1 hr (pa_cons (pv 0) (pa_cons (pv 5) (pa_cons (pv 7) pa_nil)))) (pv 2) (nomark _)) (fun _ _ _ _ _ => pv 7)))
        (pss_cons (ps_if (pt_cmpR (op_eqR (hu64 hr)) (pv 6) (pe_lst pa_nil) (nomark _))
            (pss_cons (ps_expr (pe_bm PySem.F.plainAttrs_list PySem.F.slot_list_append PySem.F.type_list_append mt_append (pv 4) (pa_cons (pv 5) pa_nil))) (pss_one ps_continue)) pss_nil)
        (pss_cons (ps_lcf (i := 4) (own := [("other", 7)]) (g := gName 7) (tt := tTest (tOp (rNotInR K) (tVar 7) (tVar 6))) (te := tVar 7) nd rfl rfl (sw_true rfl rfl rfl (by decide +kernel)) (pi_list (pv 4)) (blkOk_by (N := ["world", "parts", "reach", "waiting", "found", "part", "near", "other"]) (sc := defScope s_closed) (by decide +kernel))
            (fun _ _ _ _ _ => pg_name (i := 7) nd rfl (.inl rfl) (.inr rfl)) (fun _ _ _ _ _ => pt_cmpR (op_notInR (hu65 hr)) (pv 7) (pv 6) rfl) (fun _ _ _ _ _ => pv 7))
        (pss_cons (ps_forG (g := gName 7) PassesOwn.never (pi_list (pv 6)) (pg_name (i := 7) nd rfl (.inl rfl) (.inl rfl))
            (pss_one (ps_set (i := 5) nd rfl (.inr rfl) (pe_kn W2 hr (pa_cons (pv 0) (pa_cons (pv 5) (pa_cons (pv 7) pa_nil)))))))
        (pss_one (ps_expr (pe_bm PySem.F.plainAttrs_list PySem.F.slot_list_append PySem.F.type_list_append mt_append (pv 3) (pa_cons (pv 5) pa_nil))))))))))
      (pss_one (ps_ret (pe_tuple T (pe_sortP T hr (pv 4))))))), ?_⟩
    have hws : 1 ≤ ts.length := hw.len.1
    have hne : ∀ {Pa : Prt}, Pok ts Pa → Pa ≠ [] := fun {Pa} h e => by
      have := h.len
      rw [e] at this
      simp at this
      omega
    -- list(parts), []
    refine ⟨u, rfl, ?_⟩
    have hsrc : ∃ p ys, u = .ref p ∧ (SqL K H p ys ∨ SqT K H p ys) ∧ Paired (PartT H) ys ps := by
      rcases hu with ⟨p, ys, e, h, pd⟩ | ⟨p, ys, e, h, pd⟩
      · exact ⟨p, ys, e, .inl (SqL.of h), pd⟩
      · exact ⟨p, ys, e, .inr (SqT.of h), pd⟩
    obtain ⟨pu, ys, rfl, hpu, pdu⟩ := hsrc
    refine ⟨⟨pu, ys, rfl, hpu, fun wl hwl => ?_⟩⟩
    have s1 : Same H (upd H wl (.lst ys)) := sm_new hwl
    generalize hH1 : upd H wl (.lst ys) = H1 at s1
    have e1 : H1 wl = some (.lst ys) := by rw [← hH1, upd_same]
    refine ⟨by show 0 ≤ sizeLine; exact Nat.zero_le _, fun fl hfl => ?_⟩
    have s2 : Same H1 (upd H1 fl (.lst [])) := sm_new hfl
    have hwf : wl ≠ fl := fun e => by rw [e, hfl] at e1; cases e1
    generalize hH2 : upd H1 fl (.lst []) = H2 at s2
    have e2 : H2 fl = some (.lst []) := by rw [← hH2, upd_same]
    have s12 := s1.trans s2
    refine ⟨_, _, rfl, ?_⟩
    -- the loop
    refine ⟨fun m σ H' => ∃ fl wait fnd ws fs, (∃ x y z, σ = [some v, some (.ref pu), some (.int (R : Int)), some (.ref wl), some (.ref fl), x, y, z]) ∧ Same H H' ∧ H fl = none ∧ wl ≠ fl ∧ H' wl = some (.lst ws) ∧ H' fl = some (.lst fs) ∧ Paired (PartT H') ws wait ∧ Paired (PartT H') fs fnd ∧ Cls ts R ps wait fnd ∧ wait.length + fnd.length ≤ ps.length ∧ m = 2 * wait.length + fnd.length,
      ⟨_, fl, ps, [], ys, [], ⟨_, _, _, rfl⟩, s12, s1.free hfl, hwf, s2 _ _ e1, e2, stb_pairs stb_part (kt s12) pdu, .nil, Cls.start hpok, by simp, rfl⟩, ?_⟩
    rintro m σ H' ⟨fl, wait, fnd, ws, fs, ⟨x0, y0, z0, rfl⟩, sm, hfl0, hwf, ew, ef, pw, pf, cls, hlen, rfl⟩
    refine ⟨.ref wl, rfl, !ws.isEmpty, .inl ⟨ws, SqL.of ew, rfl⟩, ?_⟩
    have hwlen := pd_len pw
    have hflen := pd_len pf
    by_cases hemp : wait = []
    · subst hemp
      cases pw
      refine iteF ?_
      refine ⟨.ref fl, rfl, ⟨⟨fl, fnd, rfl, ⟨fl, fs, rfl, ef, pf⟩, fun P hP => hne (cls.fin.ok P hP), fun l ys qs hperm hl hys => ?_⟩⟩⟩
      have s3 : Same H' (upd H' l (.lst ys)) := sm_new hl
      refine tuple_lst upd_same fun tl htl => ?_
      have s4 := sm_new (H := upd H' l (.lst ys)) (o := .tup ys) htl
      refine q _ _ qs ((sm.trans s3).trans s4) ⟨tl, ys, rfl, upd_same, stb_pairs stb_part (kt (s3.trans s4)) hys⟩ (cls.fin.perm hperm) ?_
      rw [hperm.length_eq]; simpa using hlen
    · obtain ⟨wait', pt, rfl⟩ : ∃ l x, wait = l ++ [x] := ⟨_, _, (List.dropLast_concat_getLast hemp).symm⟩
      obtain ⟨ws', pv', rfl, pw', rp⟩ := pop_last pw
      rw [List.length_append, List.length_singleton] at hlen
      obtain ⟨Mm, hMm⟩ : ∃ M, M = 2 * (wait' ++ [pt]).length + fnd.length := ⟨_, rfl⟩
      rw [← hMm]
      have hb : (!(ws' ++ [pv']).isEmpty) = true := by cases ws' <;> rfl
      rw [hb]
      refine iteT ⟨fun σ H'' => ∃ fl wait fnd ws fs, (∃ x y z, σ = [some v, some (.ref pu), some (.int (R : Int)), some (.ref wl), some (.ref fl), x, y, z]) ∧ Same H H'' ∧ H fl = none ∧ wl ≠ fl ∧ H'' wl = some (.lst ws) ∧ H'' fl = some (.lst fs) ∧ Paired (PartT H'') ws wait ∧ Paired (PartT H'') fs fnd ∧ Cls ts R ps wait fnd ∧ wait.length + fnd.length ≤ ps.length ∧ 2 * wait.length + fnd.length < Mm, ?_, ?_⟩
      · rintro σ' H'' ⟨fl, wait, fnd, ws, fs2, hσ, h1, h2, h3, h4, h5, h6, h7, h8, h9, h10⟩
        exact ⟨_, h10, fl, wait, fnd, ws, fs2, hσ, h1, h2, h3, h4, h5, h6, h7, h8, h9, rfl⟩
      -- pop
      refine ⟨.ref wl, rfl, .inl ⟨rfl, _, SqL.of ew⟩, wl, ws' ++ [pv'], pv', rfl, rfl, ew, by simp, ?_⟩
      rw [List.dropLast_concat]
      have hHwl : H wl = none := hwl
      rw [List.length_append, List.length_singleton] at hMm
      have k1 : Kt H' (upd H' wl (.lst ws')) := kt_lst ew
      have sm1 : Same H (upd H' wl (.lst ws')) := sm_mut sm hHwl
      have ef1 : upd H' wl (.lst ws') fl = some (.lst fs) := by rw [upd_ne (Ne.symm hwf)]; exact ef
      have ew1 : upd H' wl (.lst ws') wl = some (.lst ws') := upd_same
      have pw1 := stb_pairs stb_part k1 pw'
      have pf1 := stb_pairs stb_part k1 pf
      have rp1 := stb_part _ _ _ _ k1 rp
      generalize upd H' wl (.lst ws') = Ha at k1 sm1 ef1 ew1 pw1 pf1 rp1
      have okp : Pok ts pt := cls.ok pt (by simp)
      have okf : ∀ M ∈ fnd, Pok ts M := fun M hM => cls.ok M (List.mem_append_right _ hM)
      -- near
      refine ⟨.ref fl, rfl, fl, rfl, ⟨_, SqL.of ef1⟩, ?_⟩
      refine lc_lstF stb_part (Stb.d stb_part) ef1 pf1 (by omega) (fun M => decide (far ts pt M ≤ R)) (fun M => M) (fun D b x H3 Kn Ks hacc hb s3 rx kn ks => ⟨rfl, ?_⟩) (fun D nys Hb hD sb eD pD => ?_)
      · refine ⟨v, rfl, pv', rfl, x, rfl, v, pv', x, ts, pt, b, rfl, hw.same (sm1.trans s3), stb_part _ _ _ _ (kt s3) rp1, rx, okp, okf b hb, fun H4 s4 => ⟨.int (R : Int), rfl, _, _, rfl, rfl, _, rfl, ?_⟩⟩
        by_cases hfar : far ts pt b ≤ R
        · rw [decide_eq_true (by omega)]
          exact iteT ⟨x, rfl, kn (decide_eq_true hfar) x H4 s4 (stb_part _ _ _ _ (kt s4) rx)⟩
        · rw [decide_eq_false (by omega)]
          exact iteF (ks (decide_eq_false hfar) H4 s4)
      · rw [List.map_id'] at pD
        have smb := sm1.trans sb
        have efb := sb _ _ ef1
        have ewb := sb _ _ ew1
        have pwb := stb_pairs stb_part (kt sb) pw1
        have pfb := stb_pairs stb_part (kt sb) pf1
        have rpb := stb_part _ _ _ _ (kt sb) rp1
        have hDf : D ≠ fl := fun e => by rw [e, ef1] at hD; cases hD
        have hDw : D ≠ wl := fun e => by rw [e, ew1] at hD; cases hD
        -- near == []
        refine ⟨.ref D, rfl, by show 0 ≤ sizeLine; exact Nat.zero_le _, fun e0 he0 => ?_⟩
        have sc : Same Hb (upd Hb e0 (.lst [])) := sm_new he0
        have ee0 : upd Hb e0 (.lst []) e0 = some (.lst []) := upd_same
        generalize upd Hb e0 (.lst []) = Hc at sc ee0
        have eDc := sc _ _ eD
        have pDc := stb_pairs stb_part (kt sc) pD
        refine eq_R (R := LstOf PartT) (S := LstOf PartT) (encL (encT (encT encN))) (by decide) (dp_lst (dp_tup (dp_tup dp_nat))) (dp_lst (dp_tup (dp_tup dp_nat))) (a := fnd.filter fun M => decide (far ts pt M ≤ R)) (b := []) ⟨D, _, rfl, eDc, pDc⟩ ⟨e0, _, rfl, ee0, .nil⟩ ⟨_, rfl, ?_⟩
        have smc := smb.trans sc
        have efc := sc _ _ efb
        have ewc := sc _ _ ewb
        have pwc := stb_pairs stb_part (kt sc) pwb
        have pfc := stb_pairs stb_part (kt sc) pfb
        have rpc := stb_part _ _ _ _ (kt sc) rpb
        by_cases hnear : (fnd.filter fun M => decide (far ts pt M ≤ R)) = []
        · -- none is near
          rw [decide_eq_true hnear]
          refine iteT ⟨.ref fl, rfl, .inl ⟨rfl, _, SqL.of efc⟩, pv', rfl, fl, fs, pv', rfl, rfl, efc, Nat.lt_of_le_of_lt (show fs.length ≤ 100 by omega) (by decide), ?_⟩
          have kd : Kt Hc (upd Hc fl (.lst (fs ++ [pv']))) := kt_lst efc
          refine ⟨fl, wait', fnd ++ [pt], ws', fs ++ [pv'], ⟨_, _, _, rfl⟩, sm_mut smc hfl0, hfl0, hwf, by rw [upd_ne hwf]; exact ewc, upd_same, stb_pairs stb_part kd pwc, pd_app (stb_pairs stb_part kd pfc) (.cons (stb_part _ _ _ _ kd rpc) .nil), cls.keep fun M hM => ?_, ?_, ?_⟩
          · have := List.filter_eq_nil_iff.mp hnear M hM
            simpa using this
          · rw [List.length_append, List.length_singleton]; omega
          · rw [List.length_append, List.length_singleton, hMm]; omega
        · -- some are near
          rw [decide_eq_false hnear]
          refine iteF ?_
          refine ⟨.ref fl, rfl, fl, rfl, ⟨_, SqL.of efc⟩, ?_⟩
          refine lc_lstF stb_part (Stb.d stb_part) efc pfc (by omega) (fun M => !decide (M ∈ fnd.filter fun M => decide (far ts pt M ≤ R))) (fun M => M) (fun D2 b x H3 Kn Ks hacc hb s3 rx kn ks => ⟨rfl, ?_⟩) (fun D2 gys Hd hD2 sd eD2 pD2 => ?_)
          · refine ⟨x, rfl, .ref D, rfl, ?_⟩
            refine notin_R (R := PartT) (encT (encT encN)) (by decide) (dp_tup (dp_tup dp_nat)) (as := fnd.filter fun M => decide (far ts pt M ≤ R)) rx ⟨D, _, rfl, s3 _ _ eDc, stb_pairs stb_part (kt s3) pDc⟩ fun bb hbb => ⟨_, rfl, ?_⟩
            cases bb with
            | false =>
              have hin : b ∈ fnd.filter fun M => decide (far ts pt M ≤ R) := Classical.byContradiction fun h => absurd (hbb.mpr h) (by decide)
              exact iteF (ks (by simp only [Bool.not_eq_false']; exact decide_eq_true hin) H3 (Same.refl _))
            | true =>
              have hin := hbb.mp rfl
              exact iteT ⟨x, rfl, kn (by simp only [Bool.not_eq_true']; exact decide_eq_false hin) x H3 (Same.refl _) rx⟩
          · rw [List.map_id', filt_in] at pD2
            have smd := smc.trans sd
            have ewd := sd _ _ ewc
            have eDd := sd _ _ eDc
            have pDd := stb_pairs stb_part (kt sd) pDc
            have pwd := stb_pairs stb_part (kt sd) pwc
            have rpd := stb_part _ _ _ _ (kt sd) rpc
            have hD2w : wl ≠ D2 := fun e => by rw [← e, ewc] at hD2; cases hD2
            have hD20 : H D2 = none := smc.free hD2
            refine ⟨.ref D, rfl, D, rfl, ⟨_, SqL.of eDd⟩, ?_⟩
            refine for_lst (H0 := Hd) (R := PartT) (Rl := fun H' => Same Hd H') (fun H' v a s' r => stb_part _ _ _ _ (kt s') r) (fun H' s' => s' _ _ eDd) pDd
              (fun i σ H' => Same Hd H' ∧ ∃ cv cur z, σ = [some v, some (.ref pu), some (.int (R : Int)), some (.ref wl), some (.ref D2), some cv, some (.ref D), z] ∧ PartT H' cv cur ∧ Hf ts R pt ((fnd.filter fun M => decide (far ts pt M ≤ R)).take i) cur) ⟨Same.refl _, pv', pt, _, rfl, rpd, Hf.nil okp⟩ (fun i σ H' h => h.1) ?_ ?_
            · rintro i b vb σ H3 hb ⟨s3, cv, cur, z, rfl, rcv, hf⟩ rb
              have hbm := List.mem_filter.mp (List.mem_of_getElem? hb)
              refine ⟨v, rfl, cv, rfl, vb, rfl, v, cv, vb, ts, cur, b, rfl, hw.same (smd.trans s3), rcv, rb, hf.ok, okf b hbm.1, fun x H4 Hh s4 rx hh => ?_⟩
              refine ⟨s3.trans s4, x, Hh, _, rfl, rx, ?_⟩
              rw [take_snoc hb]
              exact hf.snoc (okf b hbm.1) okp (of_decide_eq_true hbm.2) hh
            · rintro σ H3 ⟨s3, cv, cur, z, rfl, rcv, hf⟩
              rw [List.take_length] at hf
              have ew3 := s3 _ _ ewd
              have hlt : (fnd.filter fun M => !decide (far ts pt M ≤ R)).length < fnd.length := filt_lt hnear
              have hle := List.length_filter_le (fun M => !decide (far ts pt M ≤ R)) fnd
              refine ⟨.ref wl, rfl, .inl ⟨rfl, _, SqL.of ew3⟩, cv, rfl, wl, ws', cv, rfl, rfl, ew3, Nat.lt_of_le_of_lt (show ws'.length ≤ 100 by have := pd_len pw'; omega) (by decide), ?_⟩
              have ke : Kt H3 (upd H3 wl (.lst (ws' ++ [cv]))) := kt_lst ew3
              refine ⟨D2, wait' ++ [cur], fnd.filter fun M => !decide (far ts pt M ≤ R), ws' ++ [cv], gys, ⟨_, _, _, rfl⟩, sm_mut (smd.trans s3) hHwl, hD20, hD2w, upd_same, by rw [upd_ne (Ne.symm hD2w)]; exact s3 _ _ eD2, pd_app (stb_pairs stb_part ((kt s3).trans ke) pwd) (.cons (stb_part _ _ _ _ ke rcv) .nil), stb_pairs stb_part ((kt s3).trans ke) pD2, cls.join hf, ?_, ?_⟩
              · rw [List.length_append, List.length_singleton]
                refine Nat.le_trans (Nat.add_le_add_left (Nat.le_of_lt hlt) _) hlen
              · rw [List.length_append, List.length_singleton, hMm]
                exact Nat.add_lt_add_left hlt _
end
end Jr
set_option Elab.async false
set_option linter.all false
set_option maxRecDepth 100000
set_option maxHeartbeats 4000000
namespace Jr
open PySem PySem.Spec PyProof.Rows L2
noncomputable def innB (Pa Pb : Prt) : Bool := @decide (Inn Pa Pb) (Classical.propDecidable _)
theorem innB_iff {Pa Pb : Prt} : innB Pa Pb = true ↔ Inn Pa Pb := @decide_eq_true_iff _ (Classical.propDecidable _)
theorem innB_of {Pa Pb : Prt} {b : Bool} (h : b = true ↔ Inn Pa Pb) : b = innB Pa Pb := by rw [Bool.eq_iff_iff, innB_iff]; exact h
/-- a def with the keyword-only parameter reach, that is given -/
structure KnK (P : Program) (w : World) (K : PySem.W.Frag) (mg : Str → Option Value) (base : Heap) (x : Str) (k : Nat) (ps : List Str) (sp : Sp) : Prop where
  ex : ∃ f fd, mg x = some (.ref f) ∧ PySem.W.keepIn K (.ref f) = true ∧ KBn K fd ps 4 [("reach" : Str)] (fun us ws => us ++ ws) (fun vs zs => vs ++ zs) ∧ FnOk P w K mg base CX0 k f fd ps sp
theorem pe_knK {X : Cx} {k j : Nat} {x : Str} {ps : List Str} {sp : Sp} {p pos kpos : Pos} {e r : Expr} {es : List Expr} {t : TA} {tr : TE} (D : KnK X.prog X.w X.K X.mg X.base x k ps sp) (hr : Room j X.A) (ha : PA X (e :: es) t) (hrr : PE X r tr) (hk : k ≤ j := by decide) (hg : Gl X x := by rfl) (hdb : (x == ("__debug__" : Str)) = false := by decide)
    (hall : (backToKw pos (keywordEach [⟨some "reach", r, kpos⟩] X.env)).all (·.1.isSome) = true := by rfl) (hks : (backToKw pos (keywordEach [⟨some "reach", r, kpos⟩] X.env)).filterMap (·.1) = [("reach" : Str)] := by rfl)
    (he : starEach (e :: es) X.env = (false, eval e X.env) :: starEach es X.env := by rfl)
    (hpl : ((backTo pos (starEach (e :: es) X.env)).any (·.1) || (backToKw pos (keywordEach [⟨some "reach", r, kpos⟩] X.env)).any (·.1.isNone)) = false := by rfl) :
    PE X (.Call (.Name x p) (e :: es) [⟨some "reach", r, kpos⟩] pos) (tCallN 4 1 sp (fun vs zs => vs ++ zs) E0 t (tCons tr tNil)) := by
  obtain ⟨f, fd, hm, hkp, hb, F⟩ := D.ex
  exact pe_callN F (hr.mono hk) hg hm hkp hb pass0 ha (pk_cons hrr pk_nil) hall hks hdb he hpl
section
variable {P : Program} {w : World} {K : PySem.W.Frag} {mg : Str → Option Value} {base : Heap} {f : Addr} {fd : FuncData} {C : Addr}
abbrev FnK (K : PySem.W.Frag) (x : Str) (st : Stmt) (f : Addr) (fd : FuncData) : Prop := FunD K x x (defArgs st) (defBody st) (defScope st) [] [("reach", .int 1)] f fd
theorem knk_of {x : Str} {st : Stmt} {k : Nat} {sp : Sp} (F : FnK K x st f fd) (g : mg x = some (.ref f)) (h : FnOk P w K mg base CX0 k f fd ["world", "book", "one", "other", "reach"] sp)
    (hb : ∀ (D : Addr) (doc pm : Value) (an : Option Addr) (cdv ct : Value) (a b c d r : Value), bindArgs (PySem.W.fnOf x x (defArgs st) (defBody st) (defScope st) .none (.ref D) doc pm an cdv ct) ⟨[a, b, c, d], [(("reach" : Str), r)]⟩ = pure ((["world", "book", "one", "other", "reach"] : List Str).zip [a, b, c, d, r])) : KnK P w K mg base x k ["world", "book", "one", "other", "reach"] sp := by
  refine ⟨f, fd, g, F.kp, ⟨fun s us ws _ l1 l2 => ?_, fun r1 r2 => r1.append r2⟩, h⟩
  obtain ⟨oc, od, dV, kV, doc, pm, an, cdv, ct, osl, rfl, lk, hcd, hD, hK⟩ := F.ex
  rcases hD with ⟨_, rfl⟩ | ⟨e, _⟩
  · rcases hK with e | ⟨D, rfl, hq⟩
    · cases e
    · match us, l1, ws, l2 with
      | [a, b, c, d], _, [r], _ => exact .of_eq (hb D doc pm an cdv ct a b c d r)
  · exact absurd rfl e
def sp_together (C : Addr) : Sp := fun vs H Q _ => ∃ v u ts rows, ∃ z1 z2 : Str, ∃ P1 P2, ∃ R : Nat, vs = [v, u, .str z1, .str z2, .int (R : Int)] ∧ WorldR C H v ts ∧ BookT H u rows ∧ BookOk ts rows ∧ (z1, P1) ∈ rows ∧ (z2, P2) ∈ rows ∧ R ≤ 48 ∧
  ∀ b H' kin, Same H H' → Clo ts R (rows.map (·.2)) kin → (b = true ↔ ∃ M ∈ kin, Inn P1 M ∧ Inn P2 M) → Q (.bl b) H'
theorem k_together (T : Tx mg) (W0 : Kn P w K mg base "check_world" 1 ["thing"] (sp_check_world C)) (W1 : Kn P w K mg base "check_book" 7 ["world", "thing"] (sp_check_book C)) (W2 : Kn P w K mg base "part_of" 2 ["book", "name"] sp_part_of) (W3 : Kn P w K mg base "check_reach" 3 ["thing"] sp_check_reach)
    (W4 : Kn P w K mg base "closed" 5 ["world", "parts", "reach"] (sp_closed C)) (W5 : Kn P w K mg base "part_in" 1 ["one", "other"] sp_part_in)
    (F : FnK K "together" s_together f fd) (g : mg "together" = some (.ref f)) : KnK P w K mg base "together" 8 ["world", "book", "one", "other", "reach"] (sp_together C) := by
  refine knk_of F g (F.ok c_together (fun vs H Q E h => ?_) (fun cdv A outer s H vs Q E hr h => ?_)) (fun _ _ _ _ _ _ _ _ _ _ _ => rfl)
  · obtain ⟨v, u, ts, rows, z1, z2, P1, P2, R, rfl, _⟩ := h
    rfl
  · obtain ⟨v, u, ts, rows, z1, z2, P1, P2, R, rfl, hw, hu, hok, hm1, hm2, hR, q⟩ := h
    have nd := c_together.nd
    refine ⟨_, PSs.nox (pss_cons (ps_expr (pe_kn W0 hr (pa_cons (pv 0) pa_nil))) (pss_cons (ps_expr (pe_kn W1 hr (pa_cons (pv 0) (pa_cons (pv 1) pa_nil))))
      (pss_cons (ps_set (i := 5) nd rfl (.inr rfl) (pe_lcm (own := [("name", 6)]) (g := gName 6) nd (pi_tup (pe_tup (pa_cons (pv 2) (pa_cons (pv 3) pa_nil)))) (blkOk_by (N := ["world", "book", "one", "other", "reach", "both", "name", "kin", "own", "part"]) (sc := defScope s_together) (by decide +kernel)) (fun _ _ _ _ _ => pg_name (i := 6) nd rfl (.inl rfl) (.inr rfl))
          (te := tCall sp_part_of [] E0 (tCons (tVar 1) (tCons (tVar 6) tNil))) (fun _ _ _ _ _ => pe_kn W2 hr (pa_cons (pv 1) (pa_cons (pv 6) pa_nil)))))
      (pss_cons (ps_expr (pe_kn W3 hr (pa_cons (pv 4) pa_nil)))
      (pss_cons (ps_set (i := 7) nd rfl (.inl rfl) (pe_kn W4 hr (pa_cons (pv 0) (pa_cons (pe_lcm (own := [("name", 6), ("own", 8)]) (g := gTup K 2 (gCons (gName 6) (gCons (gName 8) gNil))) nd (pi_tup (pv 1)) (blkOk_by (N := ["world", "book", "one", "other", "reach", "both", "name", "kin", "own", "part"]) (sc := defScope s_together) (by decide +kernel))
          (fun _ _ _ _ _ => pg_tup rfl (pgs_cons (pg_name (i := 6) nd rfl (.inl rfl) (.inr rfl)) (pgs_cons (pg_name (i := 8) nd rfl (.inl rfl) (.inr rfl)) pgs_nil))) (te := tVar 8) (fun _ _ _ _ _ => pv 8)) (pa_cons (pv 4) pa_nil)))))
      (pss_one (ps_ret (pe_any T (pe_lcm (own := [("part", 9)]) (g := gName 9) nd (pi_tup (pv 7)) (blkOk_by (N := ["world", "book", "one", "other", "reach", "both", "name", "kin", "own", "part"]) (sc := defScope s_together) (by decide +kernel)) (fun _ _ _ _ _ => pg_name (i := 9) nd rfl (.inr rfl) (.inl rfl))
          (te := tCB (aAll K) (tCons (tLm (iList K (tVar 5)) (gName 8) (tCall sp_part_in [] E0 (tCons (tVar 8) (tCons (tVar 9) tNil))) [8]) tNil))
          (fun _ _ _ _ _ => pe_all T (pe_lcm (own := [("own", 8)]) (g := gName 8) nd (pi_list (pv 5)) (blkOk_by (N := ["world", "book", "one", "other", "reach", "both", "name", "kin", "own", "part"]) (sc := relS _ (defScope s_together)) (by decide +kernel)) (fun _ _ _ _ _ => pg_name (i := 8) nd rfl (.inl rfl) (.inr rfl))
            (fun _ _ _ _ _ => pe_kn W5 hr (pa_cons (pv 8) (pa_cons (pv 9) pa_nil)))))))))))))), ?_⟩
    refine ⟨v, rfl, v, ts, rfl, hw, ?_⟩
    refine ⟨v, rfl, u, rfl, v, u, ts, rows, rfl, hw, hu, hok, fun H1 s1 => ?_⟩
    replace hu := stb_book _ _ _ _ (kt s1) hu
    have hfew := hok.few
    have hp1 := hok.pok _ hm1
    have hp2 := hok.pok _ hm2
    -- both
    refine ⟨_, rfl, _, rfl, by show 2 ≤ sizeLine; decide, fun T1 hT1 => ?_⟩
    have s2 : Same H1 (upd H1 T1 (.tup [.str z1, .str z2])) := sm_new hT1
    have eT : upd H1 T1 (.tup [.str z1, .str z2]) T1 = some (.tup [.str z1, .str z2]) := upd_same
    generalize upd H1 T1 (.tup [.str z1, .str z2]) = H2 at s2 eT
    replace hu := stb_book _ _ _ _ (kt s2) hu
    refine ⟨T1, rfl, ⟨_, SqT.of eT⟩, ?_⟩
    refine lc_tupP (R := fun H v (p : Str × Prt) => v = .str p.1) (fun _ _ _ _ _ h => h) (Stb.d stb_part) (as := [(z1, P1), (z2, P2)]) eT (.cons rfl (.cons rfl .nil)) (by simp) (fun p => p.2) (fun D p x H3 Kn hacc hp s3 rx kn => ⟨rfl, ?_⟩) (fun D1 bys H3 hD1 s3 eD1 pD1 => ?_)
    · have hp' : p ∈ rows := by
        simp only [List.mem_cons, List.not_mem_nil, or_false] at hp
        rcases hp with rfl | rfl
        · exact hm1
        · exact hm2
      have rx' : x = .str p.1 := rx
      subst rx'
      exact ⟨u, rfl, _, rfl, u, ts, rows, p.1, p.2, rfl, stb_book _ _ _ _ (kt s3) hu, hok, hp', fun y H4 s4 ry => kn y H4 s4 ry⟩
    · replace hu := stb_book _ _ _ _ (kt s3) hu
      refine ⟨_, rfl, (R : Int), rfl, by omega, by omega, ?_⟩
      -- kin
      obtain ⟨ua, uxs, rfl, hua, updd⟩ := hu
      refine ⟨v, rfl, .ref ua, rfl, ua, rfl, ⟨_, SqT.of hua⟩, ?_⟩
      refine lc_map walk_tup rows (pd_len updd) (by omega) (Stb.d stb_part) (fun r => r.2) (fun H' s' => SqT.of (s' _ _ hua)) ?_ ?_
      · rintro D i r x H4 H4' Kn hD hacc hr' s4 ⟨rfl, hx⟩ kn
        obtain ⟨r', hr2, rr⟩ := pd_get updd hx
        rw [hr'] at hr2
        cases hr2
        exact g_pair (stb_row _ _ _ _ (kt s4) rr) fun nx px hnx hpx => ⟨rfl, px, rfl, kn px H4' (Same.refl _) hpx⟩
      · intro D2 kys H4 hD2 s4 eD2 pD2
        have s14 := ((s1.trans s2).trans s3).trans s4
        refine ⟨_, rfl, v, .ref D2, ts, rows.map (·.2), R, rfl, hw.same s14, .inl ⟨D2, kys, rfl, eD2, pD2⟩, fun p hp => ?_, ?_, fun kv H5 kin s5 rk clo hkl => ?_⟩
        · obtain ⟨r, hr', rfl⟩ := List.mem_map.mp hp
          exact hok.pok r hr'
        · rw [List.length_map]; omega
        rw [List.length_map] at hkl
        obtain ⟨ka, kxs, rfl, hka, kpd⟩ := rk
        have eD15 := s5 _ _ (s4 _ _ eD1)
        have pD15 := stb_pairs stb_part (kt (s4.trans s5)) pD1
        refine ⟨.ref ka, rfl, ka, rfl, ⟨_, SqT.of hka⟩, ?_⟩
        refine lc_tupP stb_part (Stb.d stb_bl) hka kpd (by omega) (fun M => innB P1 M && (innB P2 M && true)) (fun D M x H6 Kn hacc hM s6 rx kn => ⟨rfl, ?_⟩) (fun D ys H6 hD s6 e6 p6 => ?_)
        · refine ⟨.ref D1, rfl, D1, rfl, ⟨_, SqL.of (s6 _ _ eD15)⟩, ?_⟩
          refine lc_lstP stb_part (Stb.d stb_bl) (s6 _ _ eD15) (stb_pairs stb_part (kt s6) pD15) (by simp) (fun Pa => innB Pa M) (fun D' Pa y H7 Kn' hacc' hPa s7 ry kn' => ⟨rfl, ?_⟩) (fun D' zs H7 hD' s7 e7 p7 => ?_)
          · have hpo : Pok ts Pa := by
              simp only [List.map_cons, List.map_nil, List.mem_cons, List.not_mem_nil, or_false] at hPa
              rcases hPa with rfl | rfl
              · exact hp1
              · exact hp2
            refine ⟨y, rfl, x, rfl, y, x, ts, Pa, M, rfl, ry, stb_part _ _ _ _ (kt s7) rx, hpo, clo.ok M hM, hw.ok, hw.len.2, fun b H8 s8 hb => kn' _ H8 s8 ?_⟩
            rw [innB_of hb]; rfl
          · refine all_ans e7 p7 ?_
            exact kn _ H7 s7 rfl
        · refine any_ans e6 p6 ?_
          refine q _ H6 kin (((s14.trans s5).trans s6)) clo ?_
          rw [List.any_eq_true]
          constructor
          · rintro ⟨b, hb, e⟩
            obtain ⟨M, hM, rfl⟩ := List.mem_map.mp hb
            have e' : (innB P1 M && (innB P2 M && true)) = true := e
            rw [Bool.and_true, Bool.and_eq_true, innB_iff, innB_iff] at e'
            exact ⟨M, hM, e'⟩
          · rintro ⟨M, hM, h1, h2⟩
            refine ⟨_, List.mem_map.mpr ⟨M, hM, rfl⟩, ?_⟩
            show (innB P1 M && (innB P2 M && true)) = true
            rw [Bool.and_true, Bool.and_eq_true, innB_iff, innB_iff]
            exact ⟨h1, h2⟩
end
end Jr
set_option linter.all false
set_option maxRecDepth 100000
/-! Walks spot by spot, and all spots. -/
namespace Jr
/-- w goes from a to c in n steps -/
structure Wk (ts : Trs) (a : List Nat) (w : List (List Nat)) (c : List Nat) (n : Nat) : Prop where
  ok : ∀ s ∈ w, Sok ts s
  len : w.length = n + 1
  first : w[0]? = some a
  last : w[n]? = some c
  step : ∀ (i : Nat) s s', w[i]? = some s → w[i + 1]? = some s' → sd ts s s' ≤ 1
theorem Wk.start {ts : Trs} {a : List Nat} (h : Sok ts a) : Wk ts a [a] a 0 :=
  ⟨fun s hs => by rw [List.mem_singleton.mp hs]; exact h, rfl, rfl, rfl, fun i s s' _ h2 => by simp at h2⟩
theorem Wk.snoc {ts : Trs} {a c c' : List Nat} {w : List (List Nat)} {n : Nat} (h : Wk ts a w c n) (hs : Sok ts c') (hd : sd ts c c' ≤ 1) : Wk ts a (w ++ [c']) c' (n + 1) := by
  refine ⟨fun s hs' => ?_, by rw [List.length_append, h.len]; rfl, ?_, ?_, fun i s s' h1 h2 => ?_⟩
  · rcases List.mem_append.mp hs' with e | e
    · exact h.ok s e
    · rw [List.mem_singleton.mp e]; exact hs
  · rw [List.getElem?_append_left (by rw [h.len]; omega)]; exact h.first
  · rw [List.getElem?_append_right (by rw [h.len]; omega), h.len]; simp
  · have hi : i + 1 < (w ++ [c']).length := (List.getElem?_eq_some_iff.mp h2).1
    rw [List.length_append, h.len, List.length_singleton] at hi
    by_cases he : i + 1 < n + 1
    · rw [List.getElem?_append_left (by rw [h.len]; omega)] at h1 h2
      exact h.step i s s' h1 h2
    · have hin : i = n := by omega
      subst hin
      rw [List.getElem?_append_left (by rw [h.len]; omega), h.last] at h1
      rw [List.getElem?_append_right (by rw [h.len]; omega), h.len] at h2
      simp at h2
      cases h1
      subst h2
      exact hd
theorem sok_set : ∀ {ts : Trs} {c : List Nat} {i p : Nat} {t : List Nat}, Sok ts c → ts[i]? = some t → p ≤ t.length → Sok ts (c.set i p)
  | [], [], _, _, _, _, h, _ => by simp at h
  | t :: ts, x :: c, 0, p, t', h, ht, hp => by
    have : t = t' := by simpa using ht
    subst this
    exact ⟨hp, h.2⟩
  | t :: ts, x :: c, i + 1, p, t', h, ht, hp => ⟨h.1, sok_set h.2 (by simpa using ht) hp⟩
  | [], _ :: _, _, _, _, h, _, _ => h.elim
  | _ :: _, [], _, _, _, h, _, _ => h.elim
theorem sd_set : ∀ {ts : Trs} {c : List Nat} {i p q : Nat} {t : List Nat}, c.length = ts.length → ts[i]? = some t → sd ts (c.set i p) (c.set i q) = dist t p q
  | [], _, _, _, _, _, _, h => by simp at h
  | t :: ts, [], _, _, _, _, h, _ => by simp at h
  | t :: ts, x :: c, 0, p, q, t', h, ht => by
    have : t = t' := by simpa using ht
    subst this
    show dist t p q + sd ts c c = _
    rw [sd_self]; rfl
  | t :: ts, x :: c, i + 1, p, q, t', h, ht => by
    show dist t x x + sd ts (c.set i p) (c.set i q) = _
    rw [dist_self, sd_set (by simpa using h) (by simpa using ht)]; omega
theorem mix_get {xs ys : List Nat} {i : Nat} (h : ys.length = xs.length) (hi : i ≤ ys.length) : (ys.take i ++ xs.drop i)[i]? = xs[i]? := by
  rw [List.getElem?_append_right (by rw [List.length_take]; omega), List.length_take, Nat.min_eq_left hi, Nat.sub_self, List.getElem?_drop]; simp
theorem mix_set {xs ys : List Nat} {i y : Nat} (h : ys.length = xs.length) (hy : ys[i]? = some y) : (ys.take i ++ xs.drop i).set i y = ys.take (i + 1) ++ xs.drop (i + 1) := by
  have hi := (List.getElem?_eq_some_iff.mp hy).1
  rw [take_snoc hy, List.set_append_right _ _ (by rw [List.length_take]; omega), List.length_take, Nat.min_eq_left (by omega), Nat.sub_self]
  rw [List.drop_eq_getElem_cons (by omega), List.set_cons_zero, List.append_assoc]; rfl
theorem set_same {c : List Nat} {i x : Nat} (h : c[i]? = some x) : c.set i x = c := by
  apply List.ext_getElem?
  intro j
  rw [List.getElem?_set]
  split
  · rename_i e
    subst e
    split
    · exact h.symm
    · rename_i h2
      rw [List.getElem?_eq_none (by omega)] at h; cases h
  · rfl
theorem sd_sum : ∀ {ts : Trs} {a b : List Nat}, sd ts a b = ((ts.zip (a.zip b)).map fun p => dist p.1 p.2.1 p.2.2).sum
  | [], _, _ => by simp [sd]
  | _ :: _, [], _ => by simp [sd]
  | _ :: _, _ :: _, [] => by simp [sd]
  | t :: ts, a :: Pa, b :: Pb => by
    rw [List.zip_cons_cons, List.zip_cons_cons, List.map_cons, List.sum_cons, ← sd_sum]; rfl
theorem Nearest.facts : ∀ {ts : Trs} {Pa Pb : Prt} {xs ys : List Nat}, Nearest ts Pa Pb xs ys → xs.length = ts.length ∧ ys.length = ts.length ∧ Inn (one xs) Pa ∧ Inn (one ys) Pb ∧ sd ts xs ys = far ts Pa Pb
  | [], [], [], [], [], _ => ⟨rfl, rfl, trivial, trivial, rfl⟩
  | t :: ts, a :: Pa, b :: Pb, x :: xs, y :: ys, h => by
    obtain ⟨h1, h2, h3, h4, h5⟩ := Nearest.facts h.2
    refine ⟨by simp [h1], by simp [h2], ⟨fun z hz => by rw [List.mem_singleton.mp hz]; exact h.1.1, h3⟩, ⟨fun z hz => by rw [List.mem_singleton.mp hz]; exact h.1.2.1, h4⟩, ?_⟩
    show dist t x y + sd ts xs ys = gap t a b + far ts Pa Pb
    rw [h.1.2.2, h5]
theorem Nearest.sok : ∀ {ts : Trs} {Pa Pb : Prt} {xs ys : List Nat}, Nearest ts Pa Pb xs ys → Pok ts Pa → Pok ts Pb → Sok ts xs ∧ Sok ts ys
  | [], [], [], [], [], _, _, _ => ⟨trivial, trivial⟩
  | t :: ts, a :: Pa, b :: Pb, x :: xs, y :: ys, h, ha, hb => by
    obtain ⟨h1, h2⟩ := Nearest.sok h.2 ha.2 hb.2
    exact ⟨⟨ha.1.2.2.1 x h.1.1, h1⟩, ⟨hb.1.2.2.1 y h.1.2.1, h2⟩⟩
theorem Wk.wlk {ts : Trs} {Pa Pb : Prt} {xs ys : List Nat} {w : List (List Nat)} (h : Wk ts xs w ys (far ts Pa Pb)) (n : Nearest ts Pa Pb xs ys) : Wlk ts Pa Pb (far ts Pa Pb) w :=
  ⟨h.ok, h.len, ⟨xs, h.first, n.facts.2.2.1⟩, ⟨ys, h.last, n.facts.2.2.2.1⟩, h.step⟩
/-! ### all spots -/
def allSp : List (List Nat) → Trs → List (List Nat)
  | rows, [] => rows
  | rows, t :: ts => allSp (rows.flatMap fun r => (List.range (t.length + 1)).map fun p => r ++ [p]) ts
theorem sok_app : ∀ {ts us : Trs} {r s : List Nat}, Sok ts r → Sok us s → Sok (ts ++ us) (r ++ s)
  | [], _, [], _, _, h => h
  | t :: ts, us, x :: r, s, h, h' => ⟨h.1, sok_app h.2 h'⟩
  | [], _, _ :: _, _, h, _ => h.elim
  | _ :: _, _, [], _, h, _ => h.elim
theorem sok_split : ∀ {ts us : Trs} {s : List Nat}, Sok (ts ++ us) s → ∃ r r', s = r ++ r' ∧ Sok ts r ∧ Sok us r'
  | [], _, s, h => ⟨[], s, rfl, trivial, h⟩
  | t :: ts, us, x :: s, h => by
    obtain ⟨r, r', e, h1, h2⟩ := sok_split h.2
    exact ⟨x :: r, r', by rw [e]; rfl, ⟨h.1, h1⟩, h2⟩
  | _ :: _, _, [], h => h.elim
theorem allSp_mem : ∀ {ts us : Trs} {rows : List (List Nat)}, (∀ s, s ∈ rows ↔ Sok us s) → ∀ s, s ∈ allSp rows ts ↔ Sok (us ++ ts) s
  | [], us, rows, h, s => by rw [List.append_nil]; exact h s
  | t :: ts, us, rows, h, s => by
    have h2 : ∀ s, s ∈ (rows.flatMap fun r => (List.range (t.length + 1)).map fun p => r ++ [p]) ↔ Sok (us ++ [t]) s := by
      intro s
      rw [List.mem_flatMap]
      constructor
      · rintro ⟨r, hr, hs⟩
        obtain ⟨p, hp, rfl⟩ := List.mem_map.mp hs
        exact sok_app ((h r).mp hr) ⟨by have := List.mem_range.mp hp; omega, trivial⟩
      · intro hs
        obtain ⟨r, r', rfl, h1, h2⟩ := sok_split hs
        match r', h2 with
        | [p], h2 => exact ⟨r, (h r).mpr h1, List.mem_map.mpr ⟨p, List.mem_range.mpr (by have := h2.1; omega), rfl⟩⟩
        | [], h2 => exact h2.elim
        | _ :: _ :: _, h2 => exact h2.2.elim
    have := allSp_mem (ts := ts) h2 s
    rw [List.append_assoc] at this
    exact this
theorem allSp_sok {ts : Trs} {s : List Nat} : s ∈ allSp [[]] ts ↔ Sok ts s := by
  have := allSp_mem (ts := ts) (us := []) (rows := [[]]) (fun s => by
    rw [List.mem_singleton]
    constructor
    · rintro rfl; trivial
    · intro h
      match s, h with
      | [], _ => rfl
      | _ :: _, h => exact h.elim) s
  exact this
def prod : Trs → Nat
  | [] => 1
  | t :: ts => (t.length + 1) * prod ts
theorem flat_eq {α β : Type} {f : α → List β} {m : Nat} : ∀ {l : List α}, (∀ a ∈ l, (f a).length = m) → (l.flatMap f).length = l.length * m
  | [], _ => by simp
  | a :: l, h => by
    rw [List.flatMap_cons, List.length_append, List.length_cons, Nat.add_mul, Nat.one_mul, h a List.mem_cons_self, flat_eq (l := l) fun x hx => h x (List.mem_cons_of_mem _ hx)]
    omega
theorem allSp_len : ∀ {ts : Trs} {rows : List (List Nat)}, (allSp rows ts).length = rows.length * prod ts
  | [], rows => by simp [allSp, prod]
  | t :: ts, rows => by
    show (allSp _ ts).length = _
    rw [allSp_len, flat_eq (m := t.length + 1) (fun r _ => by rw [List.length_map, List.length_range])]
    show _ * _ * _ = _ * (_ * _)
    rw [Nat.mul_assoc]
theorem prod_pos : ∀ ts : Trs, 1 ≤ prod ts
  | [] => Nat.le_refl _
  | t :: ts => Nat.mul_pos (by omega) (prod_pos ts)
/-- as the rows grow tree by tree -/
theorem allSp_snoc : ∀ {ts : Trs} {rows : List (List Nat)} {t : List Nat}, allSp rows (ts ++ [t]) = (allSp rows ts).flatMap fun r => (List.range (t.length + 1)).map fun p => r ++ [p]
  | [], _, _ => rfl
  | _ :: ts, _, _ => allSp_snoc (ts := ts)
theorem prod_take : ∀ {ts : Trs} {i : Nat}, prod (ts.take i) ≤ prod ts
  | [], i => by simp [prod]
  | t :: ts, 0 => prod_pos _
  | t :: ts, i + 1 => Nat.mul_le_mul_left _ (prod_take (ts := ts) (i := i))
theorem prod_snoc : ∀ {ts : Trs} {t : List Nat}, prod (ts ++ [t]) = prod ts * (t.length + 1)
  | [], t => by simp [prod]
  | u :: ts, t => by
    show (u.length + 1) * prod (ts ++ [t]) = (u.length + 1) * prod ts * (t.length + 1)
    rw [prod_snoc, Nat.mul_assoc]
end Jr
set_option Elab.async false
set_option linter.all false
set_option maxRecDepth 100000
set_option maxHeartbeats 4000000
namespace Jr
open PySem PySem.Spec PyProof.Rows L2
/-! ### xs[lo:hi:step] of a list -/
def pickA {α : Type} (xs : List α) (lo hi st : Option Int) : List α := (sliceRange (sliceBounds lo hi st xs.length).1 (sliceBounds lo hi st xs.length).2.1 (sliceBounds lo hi st xs.length).2.2).filterMap (xs[·]?)
theorem pd_fm {α β : Type} {F : α → β → Prop} {xs : List α} {ys : List β} (p : Paired F xs ys) : ∀ l : List Nat, Paired F (l.filterMap (xs[·]?)) (l.filterMap (ys[·]?))
  | [] => .nil
  | i :: l => by
    cases hx : xs[i]? with
    | none =>
      have hy : ys[i]? = none := by
        rw [List.getElem?_eq_none_iff] at hx ⊢
        rw [← pd_len p]; exact hx
      simp only [List.filterMap_cons, hx, hy]
      exact pd_fm p l
    | some x =>
      obtain ⟨y, hy, r⟩ := pd_get p hx
      simp only [List.filterMap_cons, hx, hy]
      exact .cons r (pd_fm p l)
theorem pd_pick {α β : Type} {F : α → β → Prop} {xs : List α} {ys : List β} (p : Paired F xs ys) (lo hi st : Option Int) : Paired F (pickA xs lo hi st) (pickA ys lo hi st) := by
  unfold pickA
  rw [pd_len p]
  exact pd_fm p _
theorem slicePick_A (its : List Value) (lo hi st : Option Int) : slicePick its.toArray lo hi st = (pickA its lo hi st).toArray := by
  unfold slicePick pickA
  simp only [List.size_toArray, List.getElem?_toArray]
structure aSl3 (K : PySem.W.Frag) (x : V) (lo hi st : Option Int) (H : Hp) (Q : VK) : Prop where
  ex : ∃ a xs, x = .ref a ∧ SqL K H a xs ∧ st ≠ some 0 ∧ ∀ p, H p = none → Q (.ref p) (upd H p (.lst (pickA xs lo hi st)))
def tSl3 (K : PySem.W.Frag) (te : TE) (tl th ts : TO) : TE := fun σ H Q => te σ H fun x H1 => tl σ H1 fun l H2 => th σ H2 fun u H3 => ts σ H3 fun c H4 => aSl3 K x l u c H4 Q
theorem pe_slice3 {X : Cx} {e st : Expr} {lo hi : Option Expr} {te : TE} {tl th ts : TO} {p2 pos : Pos} (he : PE X e te) (hl : PO X lo tl) (hu : PO X hi th) (hs : PO X (some st) ts)
    : PE X (.Subscript e (.Slice lo hi (some st) p2) pos) (tSl3 X.K te tl th ts) := by
  refine ⟨fun pins s σ H Q I h => ?_⟩
  refine Subscript_ (thn (he.run pins s σ H _ I h) fun v s1 ⟨x, H1, I1, r1, q1⟩ => ?_)
  refine wpAny_Slice (thn (hl.run pins s1 σ H1 _ I1 q1) fun vl s2 ⟨l, H2, I2, pl, q2⟩ => thn (hu.run pins s2 σ H2 _ I2 q2) fun vu s3 ⟨u, H3, I3, pu, q3⟩ => thn (hs.run pins s3 σ H3 _ I3 q3) fun vs s4 ⟨c, H4, I4, ps, q4⟩ => ?_)
  obtain ⟨a, xs, ex, hx, h0, q⟩ := q4.ex
  subst ex
  cases r1
  have I5 : L2.Inv X pins σ H4 { s4 with heap := s4.heap.push { cls := .type "slice", data := .fields #[vl, vu, vs] } } := I4.kept (t' := s4.toks) fun b ob q => Heap.get?_push_of_some _ q
  obtain ⟨its, r, ht, hz⟩ := I5.list hx
  have hlen := r.length
  show wpAny (model X.prog X.w) X.A (subscriptTail e (.Slice lo hi (some st) p2) (.ref a) (.ref s4.heap.objs.size)) (EP X pins σ Q) X.xe { s4 with heap := s4.heap.push { cls := .type "slice", data := .fields #[vl, vu, vs] } }
  refine tail_any (ops := [.ref a, .ref s4.heap.objs.size]) ht.isList.typeIs (PySem.slot_list_getitem.lookup) ?_ (by with_unfolding_all rfl)
  refine wpAny_getItem_list_slice ht.isList (Heap.IsSliceOf.new _ vl vu vs) pl pu ps h0 ?_ (by rw [List.size_toArray]; omega)
  rw [slicePick_A]
  have hle : (pickA xs l u c).length ≤ sizeLine := by
    have h1 := slicePick_size_le its.toArray l u c
    rw [slicePick_A, List.size_toArray, List.size_toArray] at h1
    have h2 := pd_len (pd_pick (F := L2.RelV) r l u c)
    omega
  exact ⟨.ref _, _, I5.laid (t' := s4.toks) (o := .lst (pickA xs l u c)) (fun b ob q => Heap.get?_push_of_some _ q) (Nat.le_refl _) ⟨hle, _, 0, pd_pick r l u c, Heap.get?_push_size _ rfl⟩, rfl, q _ (I5.hok.fresh (Nat.le_refl _))⟩
/-- the stones are such a slice -/
theorem pick_told {s0 : List Nat} {spots : List (List Nat)} {R : Nat} (hR : 0 < R) : pickA spots (some ((R : Int) - 1)) (some (-1)) (some (R : Int)) = told (s0 :: spots) R := by
  have hstep : ((R : Int) > 0) := by omega
  have e1 : (sliceBounds (some ((R : Int) - 1)) (some (-1)) (some (R : Int)) spots.length) = (min ((R : Int) - 1) spots.length, max 0 ((spots.length : Int) - 1), (R : Int)) := by
    simp only [sliceBounds, Option.getD_some, hstep, if_true]
    rw [if_neg (by omega), if_pos (by omega)]
    congr 1
    · omega
    · congr 1; omega
  unfold pickA
  rw [e1]
  unfold told sliceRange
  simp only [hstep, if_true]
  rw [List.length_cons]
  have ecount : (if min ((R : Int) - 1) spots.length < max 0 ((spots.length : Int) - 1) then (max 0 ((spots.length : Int) - 1) - min ((R : Int) - 1) spots.length + R - 1) / (R : Int) else 0).toNat = (spots.length + 1 - 2) / R := by
    by_cases h : R - 1 < spots.length - 1
    · rw [if_pos (by omega)]
      have e2 : (max 0 ((spots.length : Int) - 1) - min ((R : Int) - 1) spots.length + R - 1) = ((spots.length - 1 : Nat) : Int) := by omega
      rw [e2, ← Int.natCast_ediv, Int.toNat_natCast]
      congr 1
    · rw [if_neg (by omega)]
      have : (spots.length + 1 - 2) / R = 0 := Nat.div_eq_of_lt (by omega)
      rw [this]; rfl
  rw [ecount, List.filterMap_map]
  have hall : ∀ l : List Nat, (∀ k ∈ l, k < (spots.length + 1 - 2) / R) → l.filterMap ((spots[·]?) ∘ fun k : Nat => (min ((R : Int) - 1) spots.length + (R : Int) * (k : Int)).toNat) = l.map fun k => (s0 :: spots).getD ((k + 1) * R) [] := by
    intro l
    induction l with
    | nil => intro _; rfl
    | cons k l ih =>
      intro h
      have hk := h k List.mem_cons_self
      have hk2 : (k + 1) * R ≤ spots.length + 1 - 2 := by
        have : k + 1 ≤ (spots.length + 1 - 2) / R := hk
        exact (Nat.le_div_iff_mul_le hR).mp this
      have hRk : R ≤ (k + 1) * R := Nat.le_mul_of_pos_left _ (by omega)
      have eidx : (min ((R : Int) - 1) spots.length + (R : Int) * (k : Int)).toNat = (k + 1) * R - 1 := by
        have e3 : ((k + 1) * R : Nat) = R * k + R := by rw [Nat.add_mul, Nat.mul_comm]; omega
        have e4 : (R : Int) * (k : Int) = ((R * k : Nat) : Int) := by push_cast; rfl
        rw [e4]
        omega
      obtain ⟨x, hx⟩ := get_lt (as := spots) (i := (k + 1) * R - 1) (by omega)
      have hf : ((spots[·]?) ∘ fun k : Nat => (min ((R : Int) - 1) spots.length + (R : Int) * (k : Int)).toNat) k = some x := by
        show spots[(min ((R : Int) - 1) spots.length + (R : Int) * (k : Int)).toNat]? = some x
        rw [eidx]; exact hx
      rw [List.filterMap_cons, hf, List.map_cons, ih fun j hj => h j (List.mem_cons_of_mem _ hj)]
      congr 1
      have e5 : (k + 1) * R = ((k + 1) * R - 1) + 1 := by omega
      rw [List.getD_eq_getElem?_getD, e5, List.getElem?_cons_succ, hx]; rfl
  exact hall _ fun k hk => List.mem_range.mp hk
end Jr
set_option Elab.async false
set_option linter.all false
set_option maxRecDepth 100000
set_option maxHeartbeats 4000000
namespace Jr
open PySem PySem.Spec PyProof.Rows L2
section
variable {P : Program} {w : World} {K : PySem.W.Frag} {mg : Str → Option Value} {base : Heap} {f : Addr} {fd : FuncData} {C : Addr}
def sp_walked (C : Addr) : Sp := fun vs H Q _ => ∃ v u u2 ts Pa Pb, vs = [v, u, u2] ∧ WorldR C H v ts ∧ PartT H u Pa ∧ PartT H u2 Pb ∧ Pok ts Pa ∧ Pok ts Pb ∧ ∀ x H' ws, Same H H' → LstOf NatsT H' x ws → Wlk ts Pa Pb (far ts Pa Pb) ws → far ts Pa Pb ≤ 200 → Q x H'
theorem k_walked (T : Tx mg) (W : WdOk K mg C) (W0 : Kn P w K mg base "nearest" 7 ["world", "one", "other"] (sp_nearest C)) (W1 : Kn P w K mg base "way" 5 ["tree", "one", "other"] sp_way) (F : FnP K "walked" s_walked f fd) (g : mg "walked" = some (.ref f)) : Kn P w K mg base "walked" 8 ["world", "one", "other"] (sp_walked C) := by
  refine kn_of F g (F.ok c_walked (fun vs H Q E h => ?_) (fun cdv A outer s H vs Q E hr h => ?_)) (fun _ _ _ _ _ _ us hl => match us, hl with | [_, _, _], _ => rfl)
  · obtain ⟨v, u, u2, ts, Pa, Pb, rfl, _⟩ := h
    rfl
  · obtain ⟨v, u, u2, ts, Pa, Pb, rfl, hw, ha, hb, oka, okb, q⟩ := h
    have nd := c_walked.nd
    refine ⟨_, PSs.nox (pss_cons (ps_asg (pe_kn W0 hr (pa_cons (pv 0) (pa_cons (pv 1) (pa_cons (pv 2) pa_nil)))) (pg_tup (n := 2) rfl (pgs_cons (pg_name (i := 3) nd rfl (.inl rfl) (.inl rfl)) (pgs_cons (pg_name (i := 4) nd rfl (.inl rfl) (.inl rfl)) pgs_nil))))
      (pss_cons (ps_par (i := 5) (j := 6) rfl nd rfl rfl (by decide) rfl rfl (pa_cons (pe_list T (pv 3)) (pa_cons (pe_lst (pa_cons (pv 3) pa_nil)) pa_nil)) (by rfl))
      (pss_cons (ps_forG (g := gTup K 2 (gCons (gName 7) (gCons (gName 8) gNil))) PassesOwn.never (pi_en T.enumerate (pa_cons (pe_fld (pv 0) rfl) pa_nil)) (pg_tup rfl (pgs_cons (pg_name (i := 7) nd rfl (.inl rfl) (.inl rfl)) (pgs_cons (pg_name (i := 8) nd rfl (.inl rfl) (.inl rfl)) pgs_nil)))
          (pss_cons (ps_asg (pe_kn W1 hr (pa_cons (pv 8) (pa_cons (pe_ix ix_tup (pv 3) (pv 7) (fun _ _ => rfl)) (pa_cons (pe_ix ix_tup (pv 4) (pv 7) (fun _ _ => rfl)) pa_nil)))) (pg_star (pgs_cons (pg_name (i := 9) nd rfl (.inl rfl) (.inl rfl)) (pgs_st (pg_name (i := 10) nd rfl (.inl rfl) (.inl rfl))))))
          (pss_one (ps_forG (g := gName 11) PassesOwn.never (pi_list (pv 10)) (pg_name (i := 11) nd rfl (.inl rfl) (.inl rfl))
            (pss_cons (ps_asg (pv 11) (pg_sub (pv 5) (pv 7) set_list)) (pss_one (ps_expr (pe_bm PySem.F.plainAttrs_list PySem.F.slot_list_append PySem.F.type_list_append mt_append (pv 6) (pa_cons (pe_tuple T (pv 5)) pa_nil)))))))))
      (pss_one (ps_ret (pv 6)))))), ?_⟩
    refine ⟨v, rfl, u, rfl, u2, rfl, v, u, u2, ts, Pa, Pb, rfl, hw, ha, hb, oka, okb, fun x H1 xs ys s1 rx near => ?_⟩
    obtain ⟨xl, yl, hix, hiy, hfar⟩ := near.facts
    obtain ⟨sx, sy⟩ := near.sok oka okb
    replace hw := hw.same s1
    have hxy : ys.length = xs.length := by omega
    obtain ⟨pp, hv, tv', rfl, hpp, rhv, rtv⟩ := rx
    obtain ⟨ha1, haxs, rfl, hha, hapd⟩ := rhv
    have hx := nvs_of hapd
    subst hx
    obtain ⟨hb1, hbxs, rfl, hhb, hbpd⟩ := rtv
    have hy := nvs_of hbpd
    subst hy
    refine ⟨pp, _, rfl, SqT.of hpp, rfl, _, _, rfl, _, _, rfl, rfl, ?_⟩
    refine ⟨.ref ha1, rfl, list_tup hha fun nl hnl => ?_⟩
    have s2 : Same H1 (upd H1 nl (.lst (nvs xs))) := sm_new hnl
    have en : upd H1 nl (.lst (nvs xs)) nl = some (.lst (nvs xs)) := upd_same
    generalize upd H1 nl (.lst (nvs xs)) = H2 at s2 en
    refine ⟨.ref ha1, rfl, by show 1 ≤ sizeLine; decide, fun fl hfl => ?_⟩
    have s3 : Same H2 (upd H2 fl (.lst [.ref ha1])) := sm_new hfl
    have ef : upd H2 fl (.lst [.ref ha1]) fl = some (.lst [.ref ha1]) := upd_same
    have hnf : nl ≠ fl := fun e => by rw [e, hfl] at en; cases en
    generalize upd H2 fl (.lst [.ref ha1]) = H3 at s3 ef
    refine ⟨_, _, rfl, ?_⟩
    have s13 := s2.trans s3
    have hfl1 : H1 fl = none := s2.free hfl
    obtain ⟨⟨a, dx, fs, tv, bv, rfl, ha', l1, l2, l3, ⟨ta, txs, rfl, hta, tpd⟩, r2⟩, htok, hlen⟩ := hw
    have hha3 := s13 _ _ hha
    refine ⟨.ref a, rfl, a, C, dx, fs, .ref ta, rfl, s13 _ _ ha', W.isc.cl, W.nt, l1, .ref ta, .t, txs, rfl, ⟨ta, rfl, SqT.of (s13 _ _ hta)⟩, ?_⟩
    refine for_prs (H0 := H1) (R := NatR) (S := NatsT) (Rl := fun H' => Same H1 H') (fun H' v a _ r => r) (fun H' v a s' r => stb_nats _ _ _ _ (kt s') r) (fun H1 H2 a b => a.trans b) (pairs_en tpd) (by simp [pd_len tpd]) (fun H' s' => ⟨ta, rfl, SqT.of (s' _ _ hta)⟩)
      (fun i σ H' => Same H1 H' ∧ (∃ x y z t r, σ = [some (.ref a), some u, some u2, some (.ref ha1), some (.ref hb1), some (.ref nl), some (.ref fl), x, y, z, t, r]) ∧ H' nl = some (.lst (nvs (ys.take i ++ xs.drop i))) ∧ ∃ acc ws n, H' fl = some (.lst acc) ∧ Paired (NatsT H') acc ws ∧ Wk ts xs ws (ys.take i ++ xs.drop i) n ∧ n = (((ts.zip (xs.zip ys)).take i).map fun p => dist p.1 p.2.1 p.2.2).sum ∧ n ≤ i * 30)
      ⟨s13, ⟨_, _, _, _, _, rfl⟩, by rw [List.take_zero, List.drop_zero]; exact s3 _ _ en, _, [xs], 0, ef, .cons ⟨ha1, _, rfl, hha3, nvs_pd xs⟩ .nil, by rw [List.take_zero, List.drop_zero]; exact Wk.start sx, rfl, Nat.zero_le _⟩ (fun i σ H' h => h.1) ?_ ?_
    · rintro i b vv σ H4 H5 hb ⟨s4, ⟨x0, y0, z0, t0, r0, rfl⟩, enow, acc, ws, n, efnd, pacc, wk, hn, hn30⟩ s5 hp
      refine g_pair hp fun y z ry rz => ?_
      obtain ⟨hb1', hb2⟩ := List.getElem?_zip_eq_some.mp hb
      have hil : i < ts.length := (List.getElem?_eq_some_iff.mp hb2).1
      have hbi : i = b.1 := by
        rw [List.getElem?_range hil] at hb1'
        simpa using hb1'
      have hy' : y = .int (b.1 : Int) := ry
      subst hy'
      rw [← hbi]
      have htm := List.mem_of_getElem? hb2
      have ht11 := tok_len htok htm
      obtain ⟨xi, hxi⟩ := get_lt (as := xs) (i := i) (by omega)
      obtain ⟨yi, hyi⟩ := get_lt (as := ys) (i := i) (by omega)
      have hxil : xi ≤ b.2.length := sok_zip sx (b.2, xi) (List.mem_iff_getElem?.mpr ⟨i, List.getElem?_zip_eq_some.mpr ⟨hb2, hxi⟩⟩)
      have hyil : yi ≤ b.2.length := sok_zip sy (b.2, yi) (List.mem_iff_getElem?.mpr ⟨i, List.getElem?_zip_eq_some.mpr ⟨hb2, hyi⟩⟩)
      have s45 := s4.trans s5
      refine ⟨z, rfl, .ref ha1, rfl, _, rfl, ha1, nvs xs, (i : Int), .int (xi : Int), rfl, rfl, SqT.of (s45 _ _ hha), atI_nat (nvs_get hxi), .ref hb1, rfl, _, rfl, hb1, nvs ys, (i : Int), .int (yi : Int), rfl, rfl, SqT.of (s45 _ _ hhb), atI_nat (nvs_get hyi), ?_⟩
      refine ⟨z, b.2, xi, yi, rfl, rz, htok _ htm, hxil, hyil, fun pv' H6 s6 rp => ?_⟩
      obtain ⟨pa', paxs, rfl, hpa', papd⟩ := rp
      have hpx := nvs_of papd
      subst hpx
      obtain ⟨rest, hrest⟩ : ∃ rest, path b.2 xi yi = xi :: rest := by
        have := path_head b.2 xi yi
        cases hp : path b.2 xi yi with
        | nil => rw [hp] at this; cases this
        | cons c r => rw [hp] at this; cases this; exact ⟨r, rfl⟩
      have hpl := path_len (t := b.2) xi yi
      have hdl := dist_le_add b.2 xi yi
      rw [hrest, List.length_cons] at hpl
      refine ⟨pa', .int (xi : Int), nvs rest, rfl, .inl (SqT.of (by rw [hrest] at hpa'; exact hpa')), fun sl hsl => ?_⟩
      have s7 : Same H6 (upd H6 sl (.lst (nvs rest))) := sm_new hsl
      have esl : upd H6 sl (.lst (nvs rest)) sl = some (.lst (nvs rest)) := upd_same
      generalize upd H6 sl (.lst (nvs rest)) = H7 at s7 esl
      have s57 := (s5.trans s6).trans s7
      have s47 := s4.trans s57
      refine ⟨_, _, rfl, _, _, rfl, rfl, ?_⟩
      refine ⟨.ref sl, rfl, sl, rfl, ⟨_, SqL.of esl⟩, ?_⟩
      have enow7 := s57 _ _ enow
      have efnd7 := s57 _ _ efnd
      have hsn : sl ≠ nl := fun e => by
        rw [e] at hsl
        rw [(s5.trans s6) _ _ enow] at hsl; cases hsl
      have hsf : sl ≠ fl := fun e => by
        rw [e] at hsl
        rw [(s5.trans s6) _ _ efnd] at hsl; cases hsl
      have hmixi := mix_get hxy (show i ≤ ys.length by omega)
      rw [hxi] at hmixi
      refine for_lst (H0 := H7) (R := NatR) (Rl := fun H' => H' sl = some (.lst (nvs rest))) (fun H' v a s' r => r) (fun H' s' => s') (nvs_pd rest)
        (fun j σ H' => H' sl = some (.lst (nvs rest)) ∧ Same H1 H' ∧ (∃ r, σ = [some (.ref a), some u, some u2, some (.ref ha1), some (.ref hb1), some (.ref nl), some (.ref fl), some (.int (i : Int)), some z, some (.int (xi : Int)), some (.ref sl), r]) ∧ ∃ cur c, (path b.2 xi yi)[j]? = some cur ∧ c = (ys.take i ++ xs.drop i).set i cur ∧ H' nl = some (.lst (nvs c)) ∧ ∃ acc ws, H' fl = some (.lst acc) ∧ Paired (NatsT H') acc ws ∧ Wk ts xs ws c (n + j))
        ⟨esl, s47, ⟨_, rfl⟩, xi, _, by rw [hrest]; rfl, (set_same hmixi).symm, enow7, acc, ws, efnd7, stb_pairs stb_nats (kt s57) pacc, wk⟩ (fun j σ H' h => h.1) ?_ ?_
      · rintro j p vp σ H8 hpj ⟨esl8, s8, ⟨r8, rfl⟩, cur, c, hcur, hc, enow8, acc8, ws8, efnd8, pacc8, wk8⟩ rp
        have hvp : vp = .int (p : Int) := rp
        subst hvp
        have hnext : (path b.2 xi yi)[j + 1]? = some p := by rw [hrest, List.getElem?_cons_succ]; exact hpj
        have hstep := path_step b.2 xi yi j cur p hcur hnext
        have hpl' : p ≤ b.2.length := by
          have := mem_path_le (List.mem_of_getElem? hnext)
          omega
        have hclen : c.length = ts.length := by
          rw [hc, List.length_set, List.length_append, List.length_take, List.length_drop]; omega
        have hc2 : c.set i p = (ys.take i ++ xs.drop i).set i p := by rw [hc, List.set_set]
        have hjl : j < rest.length := (List.getElem?_eq_some_iff.mp hpj).1
        refine ⟨_, rfl, .ref nl, rfl, _, rfl, nl, nvs c, (i : Int), i, rfl, rfl, enow8, ?_, ?_⟩
        · rw [nvs_len]
          unfold ixN
          rw [if_pos (by omega)]
          simp; omega
        have k9 : Kt H8 (upd H8 nl (.lst ((nvs c).set i (.int (p : Int))))) := kt_lst enow8
        have hset : (nvs c).set i (.int (p : Int)) = nvs (c.set i p) := by unfold nvs; rw [List.map_set]
        have s9 : Same H1 (upd H8 nl (.lst ((nvs c).set i (.int (p : Int))))) := sm_mut s8 hnl
        have esl9 : upd H8 nl (.lst ((nvs c).set i (.int (p : Int)))) sl = some (.lst (nvs rest)) := by rw [upd_ne hsn]; exact esl8
        have efnd9 : upd H8 nl (.lst ((nvs c).set i (.int (p : Int)))) fl = some (.lst acc8) := by rw [upd_ne (Ne.symm hnf)]; exact efnd8
        have enow9 : upd H8 nl (.lst ((nvs c).set i (.int (p : Int)))) nl = some (.lst (nvs (c.set i p))) := by rw [upd_same, hset]
        generalize upd H8 nl (.lst ((nvs c).set i (.int (p : Int)))) = H9 at k9 s9 esl9 efnd9 enow9
        refine ⟨.ref fl, rfl, .inl ⟨rfl, _, SqL.of efnd9⟩, .ref nl, rfl, tuple_lst enow9 fun tl htl => ?_⟩
        have s10 : Same H9 (upd H9 tl (.tup (nvs (c.set i p)))) := sm_new htl
        have etl : upd H9 tl (.tup (nvs (c.set i p))) tl = some (.tup (nvs (c.set i p))) := upd_same
        generalize upd H9 tl (.tup (nvs (c.set i p))) = Hx at s10 etl
        have efx := s10 _ _ efnd9
        have hlen8 := pd_len pacc8
        have hw8 := wk8.len
        refine ⟨fl, acc8, .ref tl, rfl, rfl, efx, Nat.lt_of_le_of_lt (show acc8.length ≤ 1000 by omega) (by decide), ?_⟩
        have ky : Kt Hx (upd Hx fl (.lst (acc8 ++ [.ref tl]))) := kt_lst efx
        refine ⟨by rw [upd_ne hsf]; exact s10 _ _ esl9, sm_mut (s9.trans s10) hfl1, ⟨_, rfl⟩, p, c.set i p, hnext, hc2, by rw [upd_ne hnf]; exact s10 _ _ enow9, _, ws8 ++ [c.set i p], upd_same, pd_app (stb_pairs stb_nats ((k9.trans (kt s10)).trans ky) pacc8) (.cons (stb_nats _ _ _ _ ky ⟨tl, _, rfl, etl, nvs_pd _⟩) .nil), ?_⟩
        refine wk8.snoc ?_ ?_
        · rw [hc2]
          exact sok_set (by
            have h0 := wk.ok (ys.take i ++ xs.drop i) (List.mem_of_getElem? wk.last)
            exact h0) hb2 hpl'
        · rw [hc2, hc]
          rw [sd_set (by rw [List.length_append, List.length_take, List.length_drop]; omega) hb2]
          exact hstep
      · rintro σ H8 ⟨esl8, s8, ⟨r8, rfl⟩, cur, c, hcur, hc, enow8, acc8, ws8, efnd8, pacc8, wk8⟩
        have hlast := path_last b.2 xi yi
        rw [List.getLast?_eq_getElem?, hrest, List.length_cons, Nat.add_sub_cancel, ← hrest, hcur] at hlast
        cases hlast
        rw [mix_set hxy hyi] at hc
        subst hc
        have hz : (ts.zip (xs.zip ys))[i]? = some (b.2, xi, yi) := List.getElem?_zip_eq_some.mpr ⟨hb2, List.getElem?_zip_eq_some.mpr ⟨hxi, hyi⟩⟩
        refine ⟨s8, ⟨_, _, _, _, _, rfl⟩, enow8, acc8, ws8, n + rest.length, efnd8, pacc8, wk8, ?_, ?_⟩
        · rw [take_snoc hz, List.map_append, List.sum_append, ← hn]
          simp only [List.map_cons, List.map_nil, List.sum_cons, List.sum_nil]
          omega
        · omega
    · rintro σ H4 ⟨s4, ⟨x0, y0, z0, t0, r0, rfl⟩, enow, acc, ws, n, efnd, pacc, wk, hn, hn30⟩
      have hzl : (ts.zip (xs.zip ys)).length = ts.length := by rw [List.length_zip, List.length_zip]; omega
      have hbl : ((List.range ts.length).zip ts).length = ts.length := by rw [List.length_zip, List.length_range]; omega
      rw [hbl] at wk hn hn30
      rw [List.take_of_length_le (by omega), ← sd_sum, hfar] at hn
      rw [List.take_of_length_le (by omega), List.drop_of_length_le (by omega), List.append_nil, hn] at wk
      refine ⟨.ref fl, rfl, q _ H4 ws (s1.trans s4) ⟨fl, acc, rfl, efnd, pacc⟩ (wk.wlk near) ?_⟩
      have := hlen.2
      omega
def StonesR (ts : Trs) (Pa Pb : Prt) (R : Nat) (st : List (List Nat)) : Prop := ∃ ws, Wlk ts Pa Pb (far ts Pa Pb) ws ∧ st = told ws R
abbrev SpotsT : Rp (List (List Nat)) := TupOf NatsT
def sp_stones_for (C : Addr) : Sp := fun vs H Q _ => ∃ v u u2 ts Pa Pb, ∃ R : Nat, vs = [v, u, u2, .int (R : Int)] ∧ WorldR C H v ts ∧ PartT H u Pa ∧ PartT H u2 Pb ∧ Pok ts Pa ∧ Pok ts Pb ∧ 0 < R ∧ R ≤ 48 ∧ ∀ x H' st, Same H H' → SpotsT H' x st → StonesR ts Pa Pb R st → far ts Pa Pb ≤ 200 → Q x H'
theorem k_stones_for (T : Tx mg) (W0 : Kn P w K mg base "walked" 8 ["world", "one", "other"] (sp_walked C)) (F : FnP K "stones_for" s_stones_for f fd) (g : mg "stones_for" = some (.ref f)) : Kn P w K mg base "stones_for" 9 ["world", "one", "other", "reach"] (sp_stones_for C) := by
  refine kn_of F g (F.ok c_stones_for (fun vs H Q E h => ?_) (fun cdv A outer s H vs Q E hr h => ?_)) (fun _ _ _ _ _ _ us hl => match us, hl with | [_, _, _, _], _ => rfl)
  · obtain ⟨v, u, u2, ts, Pa, Pb, R, rfl, _⟩ := h
    rfl
  · obtain ⟨v, u, u2, ts, Pa, Pb, R, rfl, hw, ha, hb, oka, okb, hR, hR48, q⟩ := h
    have nd := c_stones_for.nd
    refine ⟨_, PSs.nox (pss_cons (ps_asg (pe_kn W0 hr (pa_cons (pv 0) (pa_cons (pv 1) (pa_cons (pv 2) pa_nil)))) (pg_star (pgs_cons (pg_name (i := 4) nd rfl (.inl rfl) (.inl rfl)) (pgs_st (pg_name (i := 5) nd rfl (.inl rfl) (.inl rfl))))))
      (pss_cons (ps_if (pt_cmpR op_eq (pv 3) pe_int (nomark _)) (pss_one (ps_ret (pe_ifExp (pt_cmpR (op_eqR (hu64 hr)) (pv 5) (pe_lst pa_nil) (nomark _)) (pe_tup pa_nil) pe_non))) pss_nil)
      (pss_one (ps_ret (pe_tuple T (pe_slice3 (pv 5) (po_some (pe_op op_sub (pv 3) pe_int)) (po_some (pe_un un_neg pe_int)) (po_some (pv 3)))))))), ?_⟩
    refine ⟨v, rfl, u, rfl, u2, rfl, v, u, u2, ts, Pa, Pb, rfl, hw, ha, hb, oka, okb, fun x H1 ws s1 rx wlk hf => ?_⟩
    obtain ⟨wl, wxs, rfl, hwl, wpd⟩ := rx
    obtain ⟨w0, wr, rfl⟩ : ∃ a r, ws = a :: r := by
      have := wlk.len
      cases ws with
      | nil => simp at this
      | cons a r => exact ⟨a, r, rfl⟩
    cases wpd with
    | cons r0 pr =>
      rename_i x0 xr
      refine ⟨wl, x0, xr, rfl, .inr (SqL.of hwl), fun sl hsl => ?_⟩
      have s2 : Same H1 (upd H1 sl (.lst xr)) := sm_new hsl
      have es : upd H1 sl (.lst xr) sl = some (.lst xr) := upd_same
      generalize upd H1 sl (.lst xr) = H2 at s2 es
      refine ⟨_, _, rfl, _, _, rfl, rfl, ?_⟩
      refine ⟨_, rfl, rfl, _, rfl, ?_⟩
      rw [decide_eq_false (show V.int (R : Int) ≠ V.int 0 from fun h => by injection h with h; omega)]
      refine iteF ⟨.ref sl, rfl, _, rfl, _, _, rfl, rfl, (R : Int) - 1, rfl, 1, rfl, -1, rfl, _, rfl, (R : Int), rfl, ⟨⟨sl, xr, rfl, SqL.of es, by intro h; injection h with h; omega, fun p hp => ?_⟩⟩⟩
      have s3 : Same H2 (upd H2 p (.lst (pickA xr (some ((R : Int) - 1)) (some (-1)) (some (R : Int))))) := sm_new hp
      have ep : upd H2 p (.lst (pickA xr (some ((R : Int) - 1)) (some (-1)) (some (R : Int)))) p = some (.lst (pickA xr (some ((R : Int) - 1)) (some (-1)) (some (R : Int)))) := upd_same
      generalize upd H2 p (.lst (pickA xr (some ((R : Int) - 1)) (some (-1)) (some (R : Int)))) = H3 at s3 ep
      have pd3 := pd_pick (stb_pairs stb_nats (kt (s2.trans s3)) pr) (some ((R : Int) - 1)) (some (-1)) (some (R : Int))
      rw [pick_told (s0 := w0) hR] at pd3
      refine tuple_lst ep fun l hl => ?_
      exact q _ _ _ (((s1.trans s2).trans s3).trans (sm_new hl)) ⟨l, _, rfl, upd_same, stb_pairs stb_nats (kt (sm_new hl)) pd3⟩ ⟨_, wlk, rfl⟩ hf
def sp_stones (C : Addr) : Sp := sp_stones_for C
theorem k_stones (W0 : Kn P w K mg base "check_world" 1 ["thing"] (sp_check_world C)) (W1 : Kn P w K mg base "check_part" 5 ["world", "thing"] (sp_check_part C)) (W3 : Kn P w K mg base "check_reach" 3 ["thing"] sp_check_reach) (W4 : Kn P w K mg base "stones_for" 9 ["world", "one", "other", "reach"] (sp_stones_for C))
    (F : FnP K "stones" s_stones f fd) (g : mg "stones" = some (.ref f)) : Kn P w K mg base "stones" 10 ["world", "one", "other", "reach"] (sp_stones C) := by
  refine kn_of F g (F.ok c_stones (fun vs H Q E h => ?_) (fun cdv A outer s H vs Q E hr h => ?_)) (fun _ _ _ _ _ _ us hl => match us, hl with | [_, _, _, _], _ => rfl)
  · obtain ⟨v, u, u2, ts, Pa, Pb, R, rfl, _⟩ := h
    rfl
  · obtain ⟨v, u, u2, ts, Pa, Pb, R, rfl, hw, ha, hb, oka, okb, hR, hR48, q⟩ := h
    refine ⟨_, PSs.nox (pss_cons (ps_expr (pe_kn W0 hr (pa_cons (pv 0) pa_nil))) (pss_cons (ps_expr (pe_kn W1 hr (pa_cons (pv 0) (pa_cons (pv 1) pa_nil)))) (pss_cons (ps_expr (pe_kn W1 hr (pa_cons (pv 0) (pa_cons (pv 2) pa_nil)))) (pss_cons (ps_expr (pe_kn W3 hr (pa_cons (pv 3) pa_nil)))
      (pss_one (ps_ret (pe_kn W4 hr (pa_cons (pv 0) (pa_cons (pv 1) (pa_cons (pv 2) (pa_cons (pv 3) pa_nil))))))))))), ?_⟩
    refine ⟨v, rfl, v, ts, rfl, hw, ?_⟩
    refine ⟨v, rfl, u, rfl, v, u, ts, Pa, rfl, hw, ha, oka, fun H1 s1 => ?_⟩
    refine ⟨v, rfl, u2, rfl, v, u2, ts, Pb, rfl, hw.same s1, stb_part _ _ _ _ (kt s1) hb, okb, fun H2 s2 => ?_⟩
    have s12 := s1.trans s2
    refine ⟨_, rfl, (R : Int), rfl, by omega, by omega, ?_⟩
    exact ⟨v, rfl, u, rfl, u2, rfl, _, rfl, v, u, u2, ts, Pa, Pb, R, rfl, hw.same s12, stb_part _ _ _ _ (kt s12) ha, stb_part _ _ _ _ (kt s12) hb, oka, okb, hR, hR48, fun x H3 st s3 r1 r2 r3 => q x H3 st (s12.trans s3) r1 r2 r3⟩
end
end Jr
set_option Elab.async false
set_option linter.all false
set_option maxRecDepth 100000
set_option maxHeartbeats 4000000
namespace Jr
open PySem PySem.Spec PyProof.Rows L2
/-- a method of a class, without arguments -/
structure KnM (P : Program) (w : World) (K : PySem.W.Frag) (mg : Str → Option Value) (base : Heap) (C : Addr) (m : Str) (k : Nat) (sp : Sp) : Prop where
  ex : ∃ f fd, Meth K C m f ∧ Binds K fd ["self"] [] ∧ FnOk P w K mg base CX0 k f fd ["self"] sp
theorem pe_knM {X : Cx} {k j : Nat} {m : Str} {C : Addr} {sp : Sp} {pos apos : Pos} {o : Expr} {to : TE} {pl : Sem Bool} (D : KnM X.prog X.w X.K X.mg X.base C m k sp) (c : L2.Cls X.K C) (hr : Room j X.A) (ho : PE X o to) (hk : k ≤ j := by decide)
    (ht : eval (.Call (.Attribute o m apos) [] [] pos) X.env = (do
      let ov ← eval o X.env
      standAt apos.atName
      let (f, first) ← holding [ov] (getMethod ov m pl)
      callWith pos f first (backTo pos (starEach [] X.env)) (backToKw pos (keywordEach [] X.env))) := by rfl) : PE X (.Call (.Attribute o m apos) [] [] pos) (tMeth C m sp [] E0 to tNil) := by
  obtain ⟨f, fd, hm, hb, F⟩ := D.ex
  exact pe_meth0 (pl := pl) ho c hm F (hr.mono hk) hb .nil pass0 ht
theorem ps_lcm2 {X : Cx} {i : Nat} {y : Str} {py spos : Pos} {elt tg iter tg1 iter1 : Expr} {scope : Scope} {own : List (Str × Nat)} {vs1 : List Nat} {pos : Pos} {wi wi1 : TI} {g g1 : TG} {te : TE} (hN : X.N.Nodup) (hy : X.N[i]? = some y) (hyl : X.env.scope.names.lookup y = some .local)
    (hsw : swapsWith (.ListComp elt [⟨tg, iter, [], 0⟩, ⟨tg1, iter1, [], 0⟩] scope pos) (some (.Name y py)) spos.line X.env = pure true) (hi : PI X tg iter wi) (ok : BlkOk X.N X.env.scope scope own) (hv : ∀ i ∈ vs1, i ∈ own.map (·.2))
    (hg : ∀ (s : Shared) (H : Hp) (C : Addr) (cl : List (Str × Addr)) (fp : List Addr), PG (X.blk s H scope (compEnvC scope cl C X.env) fp) tg g)
    (hi1 : ∀ (s : Shared) (H : Hp) (C : Addr) (cl : List (Str × Addr)) (fp : List Addr), PI (X.blk s H scope (compEnvC scope cl C X.env) fp) tg1 iter1 wi1)
    (hg1 : ∀ (s : Shared) (H : Hp) (C : Addr) (cl : List (Str × Addr)) (fp : List Addr), PG (X.blk s H scope (compEnvC scope cl C X.env) fp) tg1 g1)
    (he : ∀ (s : Shared) (H : Hp) (C : Addr) (cl : List (Str × Addr)) (fp : List Addr), PE (X.blk s H scope (compEnvC scope cl C X.env) fp) elt te) (hc : X.calm = true := by rfl) (hs : ∀ x, foldedSetIterable iter X.env x = pure x := by intro _; rfl) (hs1 : ∀ env x, foldedSetIterable iter1 env x = pure x := by intro _ _; rfl) :
    PS X (.Assign [.Name y py] (.ListComp elt [⟨tg, iter, [], 0⟩, ⟨tg1, iter1, [], 0⟩] scope pos) spos) (tAsg (tL2 wi g wi1 g1 te (own.map (·.2)) vs1) (gName i)) :=
  ps_setLc2 (tt := tYes) (tt1 := tYes) hc hN hy hyl hsw hi ok hv hg (fun _ _ _ _ _ => pts_nil) hi1 hg1 (fun _ _ _ _ _ => pts_nil) he hs hs1
section
variable {P : Program} {w : World} {K : PySem.W.Frag} {mg : Str → Option Value} {base : Heap} {f : Addr} {fd : FuncData} {C : Addr}
theorem prod_map {ts : Trs} : ((ts.map fun t => t.length + 1).foldl (· * ·) 1) = prod ts := by
  have : ∀ (ts : Trs) (a : Nat), (ts.map fun t => t.length + 1).foldl (· * ·) a = a * prod ts := by
    intro ts
    induction ts with
    | nil => intro a; simp [prod]
    | cons t ts ih =>
      intro a
      rw [List.map_cons, List.foldl_cons, ih]
      show a * (t.length + 1) * prod ts = a * ((t.length + 1) * prod ts)
      rw [Nat.mul_assoc]
  rw [this, Nat.one_mul]
def sp_all_spots (C : Addr) : Sp := fun vs H Q _ => ∃ v ts, vs = [v] ∧ WorldR C H v ts ∧ prod ts ≤ 400 ∧ ∀ x H', Same H H' → LstOf NatsT H' x (allSp [[]] ts) → Q x H'
theorem k_all_spots (T : Tx mg) (W : WdOk K mg C) (W0 : KnM P w K mg base C "sizes" 1 (sp_sizes C)) (F : FnP K "all_spots" s_all_spots f fd) (g : mg "all_spots" = some (.ref f)) : Kn P w K mg base "all_spots" 2 ["world"] (sp_all_spots C) := by
  refine kn_of F g (F.ok c_all_spots (fun vs H Q E h => ?_) (fun cdv A outer s H vs Q E hr h => ?_)) (fun _ _ _ _ _ _ us hl => match us, hl with | [_], _ => rfl)
  · obtain ⟨v, ts, rfl, _⟩ := h
    rfl
  · obtain ⟨v, ts, rfl, hw, hprod, q⟩ := h
    have nd := c_all_spots.nd
    refine ⟨_, PSs.nox (pss_cons (ps_set (i := 1) nd rfl (.inl rfl) pe_int)
      (pss_cons (ps_forG (g := gName 2) PassesOwn.never (pi_tup (pe_knM W0 W.isc.cl hr (pv 0))) (pg_name (i := 2) nd rfl (.inr rfl) (.inl rfl)) (pss_one (ps_set (i := 1) nd rfl (.inl rfl) (pe_op op_mul (pv 1) (pv 2)))))
      (pss_cons (ps_if (pt_cmpR op_gt (pv 1) (pe_con1 T.MOST_SPOTS) (nomark _)) pss_never pss_nil)
      (pss_cons (ps_set (i := 3) nd rfl (.inl rfl) (pe_lst (pa_cons (pe_tup pa_nil) pa_nil)))
      (pss_cons (ps_forG (g := gName 2) PassesOwn.never (pi_tup (pe_knM W0 W.isc.cl hr (pv 0))) (pg_name (i := 2) nd rfl (.inr rfl) (.inl rfl))
        (pss_one (ps_lcm2 (i := 3) (own := [("row", 4), ("place", 5)]) (vs1 := [5]) (g := gName 4) (g1 := gName 5) (wi1 := iRng1 (tCons (tVar 2) tNil)) (te := tOp (rCatA K) (tVar 4) (tTup (tCons (tVar 5) tNil))) nd rfl rfl (sw_true rfl rfl rfl (by decide +kernel)) (pi_list (pv 3)) (blkOk_by (N := ["world", "many", "size", "rows", "row", "place"]) (sc := defScope s_all_spots) (by decide +kernel)) (by decide)
          (fun _ _ _ _ _ => pg_name (i := 4) nd rfl (.inl rfl) (.inr rfl)) (fun _ _ _ _ _ => pi_range1 (by rfl) T.range (pa_cons (pv 2) pa_nil)) (fun _ _ _ _ _ => pg_name (i := 5) nd rfl (.inl rfl) (.inr rfl)) (fun _ _ _ _ _ => pe_op op_catA (pv 4) (pe_tup (pa_cons (pv 5) pa_nil))))))
      (pss_one (ps_ret (pv 3)))))))), ?_⟩
    have hw0 := hw
    obtain ⟨⟨a, dx, fs, tv, bv, rfl, ha', l1, l2, l3, ⟨ta, txs, rfl, hta, tpd⟩, r2⟩, htok, hlen⟩ := hw
    refine ⟨.ref a, rfl, a, dx, fs, rfl, ha', l3, .ref a, ts, rfl, hw0, fun u H1 s1 ru => ?_⟩
    obtain ⟨ua, uxs, rfl, hua, updd⟩ := ru
    refine ⟨ua, rfl, ⟨_, SqT.of hua⟩, ?_⟩
    refine for_tup stb_nat hua updd (fun i σ H' => H' = H1 ∧ ∃ z r t y, σ = [some (.ref a), some (.int (prod (ts.take i) : Nat)), z, r, t, y]) ⟨rfl, _, _, _, _, rfl⟩ (fun i σ H' h => by rw [h.1]; exact Kt.refl _) ?_ ?_
    · rintro i b vb σ H' hb ⟨rfl, z, r, t, y, rfl⟩ rb
      have hvb : vb = .int (b : Int) := rb
      subst hvb
      rw [List.getElem?_map] at hb
      obtain ⟨tt, htt, rfl⟩ := Option.map_eq_some_iff.mp hb
      have ht11 := tok_len htok (List.mem_of_getElem? htt)
      refine ⟨_, rfl, _, rfl, _, _, rfl, rfl, .inr ⟨by omega, by omega⟩, rfl, some (.int ((tt.length + 1 : Nat) : Int)), r, t, y, ?_⟩
      rw [take_snoc htt, prod_snoc, Int.natCast_mul]
      rfl
    · rintro σ H' ⟨rfl, z, r, t, y, rfl⟩
      rw [List.length_map, List.take_length]
      refine ⟨_, rfl, _, _, rfl, rfl, _, rfl, ?_⟩
      rw [decide_eq_false (by omega)]
      refine iteF ?_
      -- rows = [()]
      refine ⟨by show 0 ≤ sizeLine; exact Nat.zero_le _, fun e0 he0 => ?_⟩
      have s2 : Same H' (upd H' e0 (.tup [])) := sm_new he0
      have ee0 : upd H' e0 (.tup []) e0 = some (.tup []) := upd_same
      generalize upd H' e0 (.tup []) = H2 at s2 ee0
      refine ⟨by show 1 ≤ sizeLine; decide, fun rl hrl => ?_⟩
      have s3 : Same H2 (upd H2 rl (.lst [.ref e0])) := sm_new hrl
      have erl : upd H2 rl (.lst [.ref e0]) rl = some (.lst [.ref e0]) := upd_same
      generalize upd H2 rl (.lst [.ref e0]) = H3 at s3 erl
      have s13 := (s1.trans s2).trans s3
      refine ⟨.ref a, rfl, a, dx, fs, rfl, s13 _ _ ha', l3, .ref a, ts, rfl, hw0.same s13, fun u H4 s4 ru => ?_⟩
      obtain ⟨ub, ubs, rfl, hub, ubd⟩ := ru
      have s14 := s13.trans s4
      refine ⟨ub, rfl, ⟨_, SqT.of hub⟩, ?_⟩
      refine for_tup stb_nat hub ubd (fun i σ H' => Same H4 H' ∧ ∃ m z r t y, σ = [some (.ref a), m, z, some (.ref r), t, y] ∧ LstOf NatsT H' (.ref r) (allSp [[]] (ts.take i))) ⟨Same.refl _, _, _, rl, _, _, rfl, ⟨rl, _, rfl, s4 _ _ erl, .cons ⟨e0, [], rfl, s4 _ _ (s3 _ _ ee0), .nil⟩ .nil⟩⟩ (fun i σ H' h => kt h.1) ?_ ?_
      · rintro i b vb σ H5 hb ⟨s5, m, z, r, t, y, rfl, ⟨r', rxs, e, hr', rpd⟩⟩ rb
        cases e
        have hvb : vb = .int (b : Int) := rb
        subst hvb
        rw [List.getElem?_map] at hb
        obtain ⟨tt, htt, rfl⟩ := Option.map_eq_some_iff.mp hb
        have ht11 := tok_len htok (List.mem_of_getElem? htt)
        have hlen5 : (allSp [[]] (ts.take i)).length ≤ 400 := by
          rw [allSp_len, List.length_singleton, Nat.one_mul]
          exact Nat.le_trans prod_take hprod
        have hlen6 : (allSp [[]] (ts.take (i + 1))).length ≤ 400 := by
          rw [allSp_len, List.length_singleton, Nat.one_mul]
          exact Nat.le_trans prod_take hprod
        rw [take_snoc htt, allSp_snoc] at hlen6
        refine ⟨.ref r, rfl, r, rfl, ⟨_, SqL.of hr'⟩, ?_⟩
        refine lc2_map walk_list (allSp [[]] (ts.take i)) (pd_len rpd) (fun _ => List.range (tt.length + 1)) (fun row p => row ++ [p]) (by omega) (Stb.d stb_nats) (fun H' s' => SqL.of (s' _ _ hr')) ?_ ?_
        · rintro D j row vx H6 H6' KI hD hacc hrow s6 ⟨rfl, hvx⟩ kI
          obtain ⟨row', hrow2, rr⟩ := pd_get rpd hvx
          rw [hrow] at hrow2
          cases hrow2
          refine ⟨rfl, _, rfl, (tt.length + 1 : Nat), rfl, by omega, by omega, ?_⟩
          rw [Int.toNat_natCast]
          refine kI _ H6' _ _ _ _ walk_range List.length_range.symm (Same.refl _) (fun H4 u4 => trivial) ?_
          rintro k p vp H7 H8 Kn hp u7 hacc7 ⟨rfl, rfl⟩ kn
          have hk : k = p := by
            have hk1 := (List.getElem?_eq_some_iff.mp hp).1
            rw [List.length_range] at hk1
            rw [List.getElem?_range hk1] at hp
            simpa using hp
          subst hk
          refine ⟨rfl, ?_⟩
          obtain ⟨ra, raxs, rfl, hra, rapd⟩ := stb_nats _ _ _ _ ((kt s6).trans u7.kt) rr
          have hrx := nvs_of rapd
          subst hrx
          refine ⟨.ref ra, rfl, _, rfl, by show 1 ≤ sizeLine; decide, fun pl hpl => ?_⟩
          have s9 : Same H8 (upd H8 pl (.tup [.int (0 + (k : Int))])) := sm_new hpl
          have epl : upd H8 pl (.tup [.int (0 + (k : Int))]) pl = some (.tup [.int (0 + (k : Int))]) := upd_same
          generalize upd H8 pl (.tup [.int (0 + (k : Int))]) = H9 at s9 epl
          rw [Int.zero_add] at epl
          have hsok := (allSp_sok (ts := ts.take i)).mp (List.mem_of_getElem? hrow)
          have hrl : row.length ≤ 4 := by rw [hsok.len, List.length_take]; omega
          refine ⟨ra, pl, nvs row, [.int (k : Int)], rfl, rfl, SqT.of (s9 _ _ hra), SqT.of epl, ?_, fun hnil => ?_, fun _ hnil => ?_, fun _ _ q' hq' => ?_⟩
          · rw [nvs_len, sizeLine_eq]; simp; omega
          · have : row = [] := by
              cases row with
              | nil => rfl
              | cons _ _ => cases hnil
            subst this
            exact kn _ H9 s9 ⟨pl, _, rfl, epl, .cons rfl .nil⟩
          · cases hnil
          · exact kn _ _ (s9.trans (sm_new hq')) ⟨q', _, rfl, by rw [upd_same], by
              have : nvs row ++ [V.int (k : Int)] = nvs (row ++ [k]) := by rw [nvs_app]; rfl
              rw [this]; exact nvs_pd _⟩
        · intro D ys H6 hD s6 e6 p6
          refine ⟨s5.trans s6, _, _, D, _, _, rfl, ⟨D, ys, rfl, e6, ?_⟩⟩
          rw [take_snoc htt, allSp_snoc]
          exact p6
      · rintro σ H5 ⟨s5, m, z, r, t, y, rfl, hl⟩
        rw [List.length_map, List.take_length] at hl
        exact ⟨.ref r, rfl, q _ H5 (s14.trans s5) hl⟩
end
end Jr
set_option Elab.async false
set_option linter.all false
set_option maxRecDepth 100000
set_option maxHeartbeats 4000000
namespace Jr
open PySem PySem.Spec PyProof.Rows L2
/-- the spots that pass, in order -/
inductive Hlp (Y : List Nat → Bool → Prop) : List (List Nat) → List (List Nat) → Prop
  | nil : Hlp Y [] []
  | yes {l f : List (List Nat)} {s : List Nat} : Hlp Y l f → Y s true → Hlp Y (l ++ [s]) (f ++ [s])
  | no {l f : List (List Nat)} {s : List Nat} : Hlp Y l f → Y s false → Hlp Y (l ++ [s]) f
theorem Hlp.all {Y : List Nat → Bool → Prop} {l f : List (List Nat)} (h : Hlp Y l f) (hy : ∀ s ∈ l, ∀ b, Y s b → b = true) : f = l := by
  induction h with
  | nil => rfl
  | yes h _ ih => rw [ih fun s hs => hy s (List.mem_append_left _ hs)]
  | no h y ih => exact absurd (hy _ (by simp) _ y) (by decide)
theorem Hlp.none {Y : List Nat → Bool → Prop} {l f : List (List Nat)} (h : Hlp Y l f) (hy : ∀ s ∈ l, ∀ b, Y s b → b = false) : f = [] := by
  induction h with
  | nil => rfl
  | yes h y ih => exact absurd (hy _ (by simp) _ y) (by decide)
  | no h y ih => exact ih fun s hs => hy s (List.mem_append_left _ hs)
theorem Hlp.mem {Y : List Nat → Bool → Prop} {l f : List (List Nat)} (h : Hlp Y l f) {s : List Nat} (hs : s ∈ l) (hy : ∀ b, Y s b → b = true) : s ∈ f := by
  induction h with
  | nil => simp at hs
  | yes h y ih =>
    rcases List.mem_append.mp hs with e | e
    · exact List.mem_append_left _ (ih e)
    · rw [List.mem_singleton.mp e]; simp
  | no h y ih =>
    rcases List.mem_append.mp hs with e | e
    · exact ih e
    · rw [List.mem_singleton.mp e] at hy
      exact absurd (hy _ y) (by decide)
theorem Hlp.len {Y : List Nat → Bool → Prop} {l f : List (List Nat)} (h : Hlp Y l f) : f.length ≤ l.length := by
  induction h with
  | nil => exact Nat.le_refl _
  | yes _ _ ih => simp; omega
  | no _ _ ih => simp; omega
/-- with this spot beside kin, both are one -/
def Brings (ts : Trs) (R : Nat) (kin : List Prt) (P1 P2 : Prt) (s : List Nat) (b : Bool) : Prop := ∃ kin2, Clo ts R (kin ++ [one s]) kin2 ∧ (b = true ↔ ∃ M ∈ kin2, Inn P1 M ∧ Inn P2 M)
section
variable {P : Program} {w : World} {K : PySem.W.Frag} {mg : Str → Option Value} {base : Heap} {f : Addr} {fd : FuncData} {C : Addr}
def sp_helps (C : Addr) : Sp := fun vs H Q _ => ∃ v u ts rows, ∃ z1 z2 : Str, ∃ P1 P2, ∃ R : Nat, vs = [v, u, .str z1, .str z2, .int (R : Int)] ∧ WorldR C H v ts ∧ BookT H u rows ∧ BookOk ts rows ∧ (z1, P1) ∈ rows ∧ (z2, P2) ∈ rows ∧ R ≤ 48 ∧ prod ts ≤ 400 ∧
  ∀ x H' kin fnd, Same H H' → SpotsT H' x fnd → Clo ts R (rows.map (·.2)) kin → Hlp (Brings ts R kin P1 P2) (allSp [[]] ts) fnd → Q x H'
theorem k_helps (T : Tx mg) (W0 : Kn P w K mg base "check_world" 1 ["thing"] (sp_check_world C)) (W1 : Kn P w K mg base "check_book" 7 ["world", "thing"] (sp_check_book C)) (W2 : Kn P w K mg base "part_of" 2 ["book", "name"] sp_part_of) (W3 : Kn P w K mg base "check_reach" 3 ["thing"] sp_check_reach)
    (W4 : Kn P w K mg base "closed" 5 ["world", "parts", "reach"] (sp_closed C)) (W5 : Kn P w K mg base "part_in" 1 ["one", "other"] sp_part_in) (W6 : Kn P w K mg base "all_spots" 2 ["world"] (sp_all_spots C))
    (F : FnK K "helps" s_helps f fd) (g : mg "helps" = some (.ref f)) : KnK P w K mg base "helps" 8 ["world", "book", "one", "other", "reach"] (sp_helps C) := by
  refine knk_of F g (F.ok c_helps (fun vs H Q E h => ?_) (fun cdv A outer s H vs Q E hr h => ?_)) (fun _ _ _ _ _ _ _ _ _ _ _ => rfl)
  · obtain ⟨v, u, ts, rows, z1, z2, P1, P2, R, rfl, _⟩ := h
    rfl
  · obtain ⟨v, u, ts, rows, z1, z2, P1, P2, R, rfl, hw, hu, hok, hm1, hm2, hR, hprod, q⟩ := h
    have nd := c_helps.nd
    refine ⟨_, PSs.nox (pss_cons (ps_expr (pe_kn W0 hr (pa_cons (pv 0) pa_nil))) (pss_cons (ps_expr (pe_kn W1 hr (pa_cons (pv 0) (pa_cons (pv 1) pa_nil))))
      (pss_cons (ps_set (i := 5) nd rfl (.inr rfl) (pe_lcm (own := [("name", 6)]) (g := gName 6) nd (pi_tup (pe_tup (pa_cons (pv 2) (pa_cons (pv 3) pa_nil)))) (blkOk_by (N := ["world", "book", "one", "other", "reach", "ends", "name", "kin", "found", "part", "spot", "stood", "place", "end"]) (sc := defScope s_helps) (by decide +kernel)) (fun _ _ _ _ _ => pg_name (i := 6) nd rfl (.inl rfl) (.inr rfl))
          (te := tCall sp_part_of [] E0 (tCons (tVar 1) (tCons (tVar 6) tNil))) (fun _ _ _ _ _ => pe_kn W2 hr (pa_cons (pv 1) (pa_cons (pv 6) pa_nil)))))
      (pss_cons (ps_expr (pe_kn W3 hr (pa_cons (pv 4) pa_nil)))
      (pss_cons (ps_par (i := 7) (j := 8) rfl nd rfl rfl (by decide) rfl rfl (pa_cons (pe_kn W4 hr (pa_cons (pv 0) (pa_cons (pe_tuple T (pe_lcm (own := [("name", 6), ("part", 9)]) (g := gTup K 2 (gCons (gName 6) (gCons (gName 9) gNil))) nd (pi_tup (pv 1)) (blkOk_by (N := ["world", "book", "one", "other", "reach", "ends", "name", "kin", "found", "part", "spot", "stood", "place", "end"]) (sc := defScope s_helps) (by decide +kernel))
          (fun _ _ _ _ _ => pg_tup rfl (pgs_cons (pg_name (i := 6) nd rfl (.inl rfl) (.inr rfl)) (pgs_cons (pg_name (i := 9) nd rfl (.inl rfl) (.inr rfl)) pgs_nil))) (te := tVar 9) (fun _ _ _ _ _ => pv 9))) (pa_cons (pv 4) pa_nil)))) (pa_cons (pe_lst pa_nil) pa_nil)) (by rfl))
      (pss_cons (ps_forG (g := gName 10) PassesOwn.never (pi_list (pe_kn W6 hr (pa_cons (pv 0) pa_nil))) (pg_name (i := 10) nd rfl (.inl rfl) (.inl rfl))
        (pss_cons (ps_set (i := 11) nd rfl (.inl rfl) (pe_kn W4 hr (pa_cons (pv 0) (pa_cons (pe_op op_catA (pv 7) (pe_tup (pa_cons (pe_tuple T (pe_lcm (own := [("place", 12)]) (g := gName 12) nd (pi_tup (pv 10)) (blkOk_by (N := ["world", "book", "one", "other", "reach", "ends", "name", "kin", "found", "part", "spot", "stood", "place", "end"]) (sc := defScope s_helps) (by decide +kernel)) (fun _ _ _ _ _ => pg_name (i := 12) nd rfl (.inl rfl) (.inr rfl))
            (te := tTup (tCons (tVar 12) tNil)) (fun _ _ _ _ _ => pe_tup (pa_cons (pv 12) pa_nil)))) pa_nil))) (pa_cons (pv 4) pa_nil)))))
        (pss_one (ps_if (pt_val (pe_any T (pe_lcm (own := [("part", 9)]) (g := gName 9) nd (pi_tup (pv 11)) (blkOk_by (N := ["world", "book", "one", "other", "reach", "ends", "name", "kin", "found", "part", "spot", "stood", "place", "end"]) (sc := defScope s_helps) (by decide +kernel)) (fun _ _ _ _ _ => pg_name (i := 9) nd rfl (.inr rfl) (.inl rfl))
          (te := tCB (aAll K) (tCons (tLm (iList K (tVar 5)) (gName 13) (tCall sp_part_in [] E0 (tCons (tVar 13) (tCons (tVar 9) tNil))) [13]) tNil))
          (fun _ _ _ _ _ => pe_all T (pe_lcm (own := [("end", 13)]) (g := gName 13) nd (pi_list (pv 5)) (blkOk_by (N := ["world", "book", "one", "other", "reach", "ends", "name", "kin", "found", "part", "spot", "stood", "place", "end"]) (sc := relS _ (defScope s_helps)) (by decide +kernel)) (fun _ _ _ _ _ => pg_name (i := 13) nd rfl (.inl rfl) (.inr rfl))
            (fun _ _ _ _ _ => pe_kn W5 hr (pa_cons (pv 13) (pa_cons (pv 9) pa_nil))))))))
          (pss_one (ps_expr (pe_bm PySem.F.plainAttrs_list PySem.F.slot_list_append PySem.F.type_list_append mt_append (pv 8) (pa_cons (pv 10) pa_nil)))) pss_nil))))
      (pss_one (ps_ret (pe_tuple T (pv 8)))))))))), ?_⟩
    refine ⟨v, rfl, v, ts, rfl, hw, ?_⟩
    refine ⟨v, rfl, u, rfl, v, u, ts, rows, rfl, hw, hu, hok, fun H1 s1 => ?_⟩
    replace hu := stb_book _ _ _ _ (kt s1) hu
    have hfew := hok.few
    have hp1 := hok.pok _ hm1
    have hp2 := hok.pok _ hm2
    -- both
    refine ⟨_, rfl, _, rfl, by show 2 ≤ sizeLine; decide, fun T1 hT1 => ?_⟩
    have s2 : Same H1 (upd H1 T1 (.tup [.str z1, .str z2])) := sm_new hT1
    have eT : upd H1 T1 (.tup [.str z1, .str z2]) T1 = some (.tup [.str z1, .str z2]) := upd_same
    generalize upd H1 T1 (.tup [.str z1, .str z2]) = H2 at s2 eT
    replace hu := stb_book _ _ _ _ (kt s2) hu
    refine ⟨T1, rfl, ⟨_, SqT.of eT⟩, ?_⟩
    refine lc_tupP (R := fun H v (p : Str × Prt) => v = .str p.1) (fun _ _ _ _ _ h => h) (Stb.d stb_part) (as := [(z1, P1), (z2, P2)]) eT (.cons rfl (.cons rfl .nil)) (by simp) (fun p => p.2) (fun D p x H3 Kn hacc hp s3 rx kn => ⟨rfl, ?_⟩) (fun D1 bys H3 hD1 s3 eD1 pD1 => ?_)
    · have hp' : p ∈ rows := by
        simp only [List.mem_cons, List.not_mem_nil, or_false] at hp
        rcases hp with rfl | rfl
        · exact hm1
        · exact hm2
      have rx' : x = .str p.1 := rx
      subst rx'
      exact ⟨u, rfl, _, rfl, u, ts, rows, p.1, p.2, rfl, stb_book _ _ _ _ (kt s3) hu, hok, hp', fun y H4 s4 ry => kn y H4 s4 ry⟩
    · replace hu := stb_book _ _ _ _ (kt s3) hu
      refine ⟨_, rfl, (R : Int), rfl, by omega, by omega, ?_⟩
      -- kin
      obtain ⟨ua, uxs, rfl, hua, updd⟩ := hu
      refine ⟨v, rfl, .ref ua, rfl, ua, rfl, ⟨_, SqT.of hua⟩, ?_⟩
      refine lc_map walk_tup rows (pd_len updd) (by omega) (Stb.d stb_part) (fun r => r.2) (fun H' s' => SqT.of (s' _ _ hua)) ?_ ?_
      · rintro D i r x H4 H4' Kn hD hacc hr' s4 ⟨rfl, hx⟩ kn
        obtain ⟨r', hr2, rr⟩ := pd_get updd hx
        rw [hr'] at hr2
        cases hr2
        exact g_pair (stb_row _ _ _ _ (kt s4) rr) fun nx px hnx hpx => ⟨rfl, px, rfl, kn px H4' (Same.refl _) hpx⟩
      · intro D2 kys H4 hD2 s4 eD2 pD2
        refine tuple_lst eD2 fun tp htp => ?_
        have s4' : Same H4 (upd H4 tp (.tup kys)) := sm_new htp
        have etp : upd H4 tp (.tup kys) tp = some (.tup kys) := upd_same
        generalize upd H4 tp (.tup kys) = H4b at s4' etp
        have s14 := (((s1.trans s2).trans s3).trans s4).trans s4'
        refine ⟨_, rfl, v, .ref tp, ts, rows.map (·.2), R, rfl, hw.same s14, .inr ⟨tp, kys, rfl, etp, stb_pairs stb_part (kt s4') pD2⟩, fun p hp => ?_, ?_, fun kv H5 kin s5 rk clo hkl => ?_⟩
        · obtain ⟨r, hr', rfl⟩ := List.mem_map.mp hp
          exact hok.pok r hr'
        · rw [List.length_map]; omega
        rw [List.length_map] at hkl
        obtain ⟨ka, kxs, rfl, hka, kpd⟩ := rk
        refine ⟨by show 0 ≤ sizeLine; exact Nat.zero_le _, fun fl hfl => ?_⟩
        have s6 : Same H5 (upd H5 fl (.lst [])) := sm_new hfl
        have efl : upd H5 fl (.lst []) fl = some (.lst []) := upd_same
        generalize upd H5 fl (.lst []) = H6 at s6 efl
        refine ⟨_, _, rfl, ?_⟩
        have s15 := s14.trans s5
        have eD15 := s5 _ _ (s4' _ _ (s4 _ _ eD1))
        have pD15 := stb_pairs stb_part (kt ((s4.trans s4').trans s5)) pD1
        -- the loop over all spots
        refine ⟨v, rfl, v, ts, rfl, hw.same (s15.trans s6), hprod, fun x H7 s7 rl => ?_⟩
        obtain ⟨la, lxs, rfl, hla, lpd⟩ := rl
        have hl400 : (allSp [[]] ts).length ≤ 400 := by rw [allSp_len, List.length_singleton, Nat.one_mul]; exact hprod
        have efl7 := s7 _ _ efl
        have hlaf : la ≠ fl := fun e => by
          rw [e, efl7] at hla
          have h1 : lxs = [] := by injection hla with h; injection h with h; exact h.symm
          have h2 := pd_len lpd
          rw [h1, allSp_len, List.length_singleton, Nat.one_mul] at h2
          have := prod_pos ts
          simp at h2
          omega
        have s57 := s6.trans s7
        refine ⟨la, rfl, ⟨_, SqL.of hla⟩, ?_⟩
        refine for_lst (H0 := H7) (R := NatsT) (Rl := fun H' => H' la = some (.lst lxs) ∧ Kt H7 H') (fun H' v a s' r => stb_nats _ _ _ _ s'.2 r) (fun H' s' => s'.1) lpd
          (fun i σ H' => (H' la = some (.lst lxs) ∧ Kt H7 H') ∧ Same H5 H' ∧ (∃ a b c d e g, σ = [some v, some (.ref ua), some (.str z1), some (.str z2), some (.int (R : Int)), some (.ref D1), a, some (.ref ka), some (.ref fl), b, c, d, e, g]) ∧ ∃ acc fnd, H' fl = some (.lst acc) ∧ Paired (NatsT H') acc fnd ∧ Hlp (Brings ts R kin P1 P2) ((allSp [[]] ts).take i) fnd)
          ⟨⟨hla, Kt.refl _⟩, s57, ⟨_, _, _, _, _, _, rfl⟩, [], [], efl7, .nil, .nil⟩ (fun i σ H' h => h.1) ?_ ?_
        · rintro i sp x σ H8 hsp ⟨⟨hla8, k8⟩, s8, ⟨a0, b0, c0, d0, e0, g0, rfl⟩, acc, fnd, efl8, pacc, hlp⟩ rx
          have hsok : Sok ts sp := allSp_sok.mp (List.mem_of_getElem? hsp)
          have hspl := hsok.len
          have hl4 := hw.len.2
          obtain ⟨xa, xxs, rfl, hxa, xpd⟩ := rx
          have hka8 := s8 _ _ hka
          have kpd8 := stb_pairs stb_part (kt s8) kpd
          refine ⟨v, rfl, .ref ka, rfl, .ref xa, rfl, xa, rfl, ⟨_, SqT.of hxa⟩, ?_⟩
          refine lc_tupP stb_nat (Stb.d stb_nats) hxa xpd (by omega) (fun x => [x]) (fun D t vt H9 Kn hacc ht s9 rt kn => ⟨rfl, ?_⟩) (fun D3 ys H9 hD3 s9 e9 p9 => ?_)
          · refine ⟨vt, rfl, by show 1 ≤ sizeLine; decide, fun x hx => kn _ _ (sm_new hx) ⟨x, [vt], rfl, upd_same, .cons rt .nil⟩⟩
          · refine tuple_lst e9 fun t1 ht1 => ?_
            have s10 : Same H9 (upd H9 t1 (.tup ys)) := sm_new ht1
            have et1 : upd H9 t1 (.tup ys) t1 = some (.tup ys) := upd_same
            generalize upd H9 t1 (.tup ys) = H10 at s10 et1
            refine ⟨by show 1 ≤ sizeLine; decide, fun t2 ht2 => ?_⟩
            have s11 : Same H10 (upd H10 t2 (.tup [.ref t1])) := sm_new ht2
            have et2 : upd H10 t2 (.tup [.ref t1]) t2 = some (.tup [.ref t1]) := upd_same
            generalize upd H10 t2 (.tup [.ref t1]) = H11 at s11 et2
            have s8b := (s9.trans s10).trans s11
            have rone : PartT H11 (.ref t1) (one sp) := ⟨t1, ys, rfl, s11 _ _ et1, stb_pairs stb_nats (kt (s10.trans s11)) p9⟩
            have hka11 := s8b _ _ hka8
            have kpd11 := stb_pairs stb_part (kt s8b) kpd8
            have hcat : ∀ Q' : VK, (∀ v' H', Same H11 H' → PartsT H' v' (kin ++ [one sp]) → Q' v' H') → rCatA K (.ref ka) (.ref t2) H11 Q' := by
              intro Q' hq
              refine ⟨ka, t2, kxs, [.ref t1], rfl, rfl, SqT.of hka11, SqT.of et2, ?_, fun hnil => ?_, fun _ hnil => ?_, fun _ _ pp hpp => ?_⟩
              · have := pd_len kpd
                rw [sizeLine_eq]; simp; omega
              · subst hnil
                have : kin = [] := by
                  have := pd_len kpd
                  cases kin with
                  | nil => rfl
                  | cons _ _ => simp at this
                subst this
                exact hq _ _ (Same.refl _) ⟨t2, _, rfl, et2, .cons rone .nil⟩
              · cases hnil
              · have s12 := sm_new (H := H11) (o := .tup (kxs ++ [.ref t1])) hpp
                exact hq _ _ s12 ⟨pp, _, rfl, upd_same, pd_app (stb_pairs stb_part (kt s12) kpd11) (.cons (stb_part _ _ _ _ (kt s12) rone) .nil)⟩
            refine hcat _ fun v' H12 s12 rv' => ?_
            have s8c := s8b.trans s12
            have s5c := s8.trans s8c
            refine ⟨_, rfl, v, v', ts, kin ++ [one sp], R, rfl, hw.same (s15.trans s5c), .inr rv', fun p hp => ?_, ?_, fun sv H13 kin2 s13 rk2 clo2 hkl2 => ?_⟩
            · rcases List.mem_append.mp hp with h | h
              · exact clo.ok p h
              · rw [List.mem_singleton.mp h]; exact hsok.pok
            · rw [List.length_append, List.length_singleton]; omega
            have s8d := s8c.trans s13
            have s5d := s8.trans s8d
            rw [List.length_append, List.length_singleton] at hkl2
            obtain ⟨sa, sxs, rfl, hsa, spd⟩ := rk2
            have eD1d := s5d _ _ eD15
            have pD1d := stb_pairs stb_part (kt s5d) pD15
            refine ⟨.ref sa, rfl, sa, rfl, ⟨_, SqT.of hsa⟩, ?_⟩
            refine lc_tupP stb_part (Stb.d stb_bl) hsa spd (by omega) (fun M => innB P1 M && (innB P2 M && true)) (fun D M x H6 Kn hacc hM s6 rx kn => ⟨rfl, ?_⟩) (fun D ys H14 hD s14' e6 p6 => ?_)
            · refine ⟨.ref D1, rfl, D1, rfl, ⟨_, SqL.of (s6 _ _ eD1d)⟩, ?_⟩
              refine lc_lstP stb_part (Stb.d stb_bl) (s6 _ _ eD1d) (stb_pairs stb_part (kt s6) pD1d) (by simp) (fun Pa => innB Pa M) (fun D' Pa y H7 Kn' hacc' hPa s7 ry kn' => ⟨rfl, ?_⟩) (fun D' zs H7 hD' s7 e7 p7 => ?_)
              · have hpo : Pok ts Pa := by
                  simp only [List.map_cons, List.map_nil, List.mem_cons, List.not_mem_nil, or_false] at hPa
                  rcases hPa with rfl | rfl
                  · exact hp1
                  · exact hp2
                refine ⟨y, rfl, x, rfl, y, x, ts, Pa, M, rfl, ry, stb_part _ _ _ _ (kt s7) rx, hpo, clo2.ok M hM, hw.ok, hw.len.2, fun b H8 s8 hb => kn' _ H8 s8 ?_⟩
                rw [innB_of hb]; rfl
              · refine all_ans e7 p7 ?_
                exact kn _ H7 s7 rfl
            · refine any_ans e6 p6 ?_
              have hiff : ((kin2.map fun M => innB P1 M && (innB P2 M && true)).any id = true ↔ ∃ M ∈ kin2, Inn P1 M ∧ Inn P2 M) := by
                rw [List.any_eq_true]
                constructor
                · rintro ⟨b, hb, e⟩
                  obtain ⟨M, hM, rfl⟩ := List.mem_map.mp hb
                  have e' : (innB P1 M && (innB P2 M && true)) = true := e
                  rw [Bool.and_true, Bool.and_eq_true, innB_iff, innB_iff] at e'
                  exact ⟨M, hM, e'⟩
                · rintro ⟨M, hM, h1, h2⟩
                  refine ⟨_, List.mem_map.mpr ⟨M, hM, rfl⟩, ?_⟩
                  show (innB P1 M && (innB P2 M && true)) = true
                  rw [Bool.and_true, Bool.and_eq_true, innB_iff, innB_iff]
                  exact ⟨h1, h2⟩
              refine ⟨_, rfl, ?_⟩
              have sfin := s8d.trans s14'
              have s5fin := s8.trans sfin
              have efl14 := sfin _ _ efl8
              have hla14 := sfin _ _ hla8
              have k14 : Kt H7 H14 := k8.trans (kt sfin)
              cases hany : (kin2.map fun M => innB P1 M && (innB P2 M && true)).any id with
              | true =>
                rw [hany] at hiff
                have hal := pd_len pacc
                have hfl' := hlp.len
                rw [List.length_take] at hfl'
                refine iteT ⟨.ref fl, rfl, .inl ⟨rfl, _, SqL.of efl14⟩, .ref xa, rfl, fl, acc, .ref xa, rfl, rfl, efl14, Nat.lt_of_le_of_lt (show acc.length ≤ 400 by omega) (by decide), ?_⟩
                have k15 : Kt H14 (upd H14 fl (.lst (acc ++ [.ref xa]))) := kt_lst efl14
                refine ⟨⟨by rw [upd_ne hlaf]; exact hla14, k14.trans k15⟩, sm_mut s5fin hfl, ⟨_, _, _, _, _, _, rfl⟩, _, fnd ++ [sp], upd_same, pd_app (stb_pairs stb_nats ((kt sfin).trans k15) pacc) (.cons (stb_nats _ _ _ _ ((kt sfin).trans k15) ⟨xa, xxs, rfl, hxa, xpd⟩) .nil), ?_⟩
                rw [take_snoc hsp]
                exact hlp.yes ⟨kin2, clo2, hiff⟩
              | false =>
                rw [hany] at hiff
                refine iteF ⟨⟨hla14, k14⟩, s5fin, ⟨_, _, _, _, _, _, rfl⟩, acc, fnd, efl14, stb_pairs stb_nats (kt sfin) pacc, ?_⟩
                rw [take_snoc hsp]
                exact hlp.no ⟨kin2, clo2, hiff⟩
        · rintro σ H8 ⟨_, s8, ⟨a0, b0, c0, d0, e0, g0, rfl⟩, acc, fnd, efl8, pacc, hlp⟩
          rw [List.take_length] at hlp
          refine ⟨.ref fl, rfl, tuple_lst efl8 fun l hl => ?_⟩
          exact q _ _ kin fnd ((s15.trans s8).trans (sm_new hl)) ⟨l, acc, rfl, upd_same, stb_pairs stb_nats (kt (sm_new hl)) pacc⟩ clo hlp
end
end Jr
set_option Elab.async false
set_option linter.all false
set_option maxRecDepth 100000
set_option maxHeartbeats 4000000
/-! The law's own defs: the purse. -/
namespace Jr
open PySem PySem.Spec PyProof.Rows L2
/-- all but l stays -/
def Ex (l : Addr) (H H' : Hp) : Prop := ∀ c o, c ≠ l → H c = some o → H' c = some o
theorem Ex.refl (l : Addr) (H : Hp) : Ex l H H := fun _ _ _ h => h
theorem Ex.trans {l : Addr} {H H1 H2 : Hp} (a : Ex l H H1) (b : Ex l H1 H2) : Ex l H H2 := fun c o hc h => b c o hc (a c o hc h)
theorem Same.ex {l : Addr} {H H' : Hp} (s : Same H H') : Ex l H H' := fun c o _ h => s c o h
/-- the purse: a list of three ints -/
def PurH (l : Addr) (H : Hp) : Prop := ∃ x y z : Int, H l = some (.lst [.int x, .int y, .int z])
theorem PurH.same {l : Addr} {H H' : Hp} (s : Same H H') (h : PurH l H) : PurH l H' := let ⟨x, y, z, e⟩ := h; ⟨x, y, z, s _ _ e⟩
theorem Ex.kt {l : Addr} {H H' : Hp} (e : Ex l H H') (h : PurH l H) : Kt H H' := fun a xs ha => by
  obtain ⟨x, y, z, hl⟩ := h
  exact e a _ (ne_of ha hl (fun z => by cases z)) ha
/-- what the law's random steps keep -/
structure Pw (l : Addr) (H H' : Hp) : Prop where
  ex : Ex l H H'
  pur : PurH l H'
theorem Pw.trans {l : Addr} {H H1 H2 : Hp} (a : Pw l H H1) (b : Pw l H1 H2) : Pw l H H2 := ⟨a.ex.trans b.ex, b.pur⟩
theorem Pw.refl {l : Addr} {H : Hp} (h : PurH l H) : Pw l H H := ⟨Ex.refl l H, h⟩
theorem Pw.same {l : Addr} {H H' : Hp} (h : PurH l H) (s : Same H H') : Pw l H H' := ⟨Jr.Same.ex s, h.same s⟩
theorem Pw.kt {l : Addr} {H H' : Hp} (a : Pw l H H') (h : PurH l H) : Kt H H' := a.ex.kt h
theorem Pw.free {l c : Addr} {H H' : Hp} (a : Pw l H H') (hc : H' c = none) : H c = none := by
  cases hh : H c with
  | none => rfl
  | some o =>
    by_cases e2 : c = l
    · obtain ⟨x, y, z, e⟩ := a.pur
      rw [e2, e] at hc; cases hc
    · rw [a.ex c o e2 hh] at hc; cases hc
section
variable {P : Program} {w : World} {K : PySem.W.Frag} {mg : Str → Option Value} {base : Heap} {f : Addr} {fd : FuncData} {C : Addr}
def sp_cell (K : PySem.W.Frag) : Sp := fun vs H Q _ => ∃ a, ∃ ns : List Int, ∃ k : Nat, vs = [.ref a, .int (k : Int)] ∧ SqL K H a (ns.map V.int) ∧ k ≤ 100 ∧ ∀ (i : Int) H', Same H H' → Q (.int i) H'
theorem k_cell (T : Tx mg) (F : FnP K "_law_cell" s__law_cell f fd) (g : mg "_law_cell" = some (.ref f)) : Kn P w K mg base "_law_cell" 1 ["_law_script", "_law_k"] (sp_cell K) := by
  refine kn_of F g (F.ok c__law_cell (fun vs H Q E h => ?_) (fun cdv A outer s H vs Q E hr h => ?_)) (fun _ _ _ _ _ _ us hl => match us, hl with | [_, _], _ => rfl)
  · obtain ⟨a, ns, k, rfl, _⟩ := h
    rfl
  · obtain ⟨a, ns, k, rfl, hs, hk, q⟩ := h
    have nd := c__law_cell.nd
    refine ⟨_, PSs.nox (pss_cons (ps_if (pt_cmpR op_lt (pv 1) (pe_len T (pv 0)) (nomark _)) (pss_one (ps_ret (pe_ix ix_list (pv 0) (pv 1) (fun _ _ => rfl)))) pss_nil)
      (pss_cons (ps_set (i := 2) nd rfl (.inl rfl) (pe_op op_mod (pe_op op_mul pe_int (pe_op op_add (pe_op op_add (pe_op op_mul (pv 1) (pv 1)) (pe_op op_mul pe_int (pv 1))) pe_int)) pe_int))
      (pss_cons (ps_forG (g := gName 3) PassesOwn.never (pi_list (pe_slice sl_list (pv 0) po_none (po_some pe_int))) (pg_name (i := 3) nd rfl (.inl rfl) (.inl rfl))
        (pss_one (ps_set (i := 2) nd rfl (.inl rfl) (pe_op op_mod (pe_op op_add (pe_op op_mul (pv 2) pe_int) (pv 3)) pe_int))))
      (pss_one (ps_ret (pv 2)))))), ?_⟩
    refine ⟨_, rfl, .ref a, rfl, ⟨a, _, rfl, .inl hs, ?_⟩⟩
    refine ⟨_, _, rfl, rfl, _, rfl, ?_⟩
    rw [List.length_map]
    by_cases hlt : k < ns.length
    · rw [decide_eq_true (by omega)]
      obtain ⟨x, hx⟩ := get_lt hlt
      exact iteT ⟨.ref a, rfl, _, rfl, a, _, (k : Int), .int x, rfl, rfl, hs, atI_nat (by rw [List.getElem?_map, hx]; rfl), q x H (Same.refl H)⟩
    · rw [decide_eq_false (by omega)]
      refine iteF ?_
      refine ⟨_, rfl, _, rfl, (k : Int), (k : Int), rfl, rfl, .inl ⟨by omega, by omega⟩, _, rfl, 9, (k : Int), rfl, rfl, .inl ⟨by omega, by omega⟩, _, _, rfl, rfl, _, _, rfl, rfl, 60013, _, rfl, rfl, .inl ⟨by omega, by omega⟩, _, _, rfl, rfl, (by show (0 : Int) < 1000000289; decide), ?_⟩
      refine ⟨.ref a, rfl, 4, rfl, a, _, rfl, hs, fun sl hsl => ?_⟩
      have s1 : Same H (upd H sl (.lst (cutV (ns.map V.int) none (some 4)))) := sm_new hsl
      have esl : upd H sl (.lst (cutV (ns.map V.int) none (some 4))) sl = some (.lst (cutV (ns.map V.int) none (some 4))) := upd_same
      generalize upd H sl (.lst (cutV (ns.map V.int) none (some 4))) = H1 at s1 esl
      have ecut : cutV (ns.map V.int) none (some 4) = (ns.take 4).map V.int := by
        have := cut_to (xs := ns.map V.int) (j := 4)
        rw [show ((4 : Nat) : Int) = 4 from rfl] at this
        rw [this, List.map_take]
      rw [ecut] at esl
      refine ⟨sl, rfl, ⟨_, SqL.of esl⟩, ?_⟩
      refine for_lst (H0 := H1) (R := IntR) (Rl := fun H' => H' = H1) (fun H' v a _ r => r) (fun H' s' => by rw [s']; exact esl) (pd_map (F := IntR H1) (f := V.int) (fun _ => rfl) _)
        (fun i σ H' => H' = H1 ∧ ∃ st : Int, ∃ z, σ = [some (.ref a), some (.int (k : Int)), some (.int st), z] ∧ 0 ≤ st ∧ st < 1000000289) ⟨rfl, _, _, rfl, Int.emod_nonneg _ (by decide), Int.emod_lt_of_pos _ (by decide)⟩ (fun i σ H' h => h.1) ?_ ?_
      · rintro i b vb σ H' hb ⟨rfl, st, z, rfl, h0, h1⟩ rb
        have hvb : vb = .int b := rb
        subst hvb
        refine ⟨_, rfl, st, 40009, rfl, rfl, .inl ⟨by omega, by omega⟩, _, rfl, _, _, rfl, rfl, _, _, rfl, rfl, (by show (0 : Int) < 1000000289; decide), rfl, _, _, rfl, Int.emod_nonneg _ (by decide), Int.emod_lt_of_pos _ (by decide)⟩
      · rintro σ H' ⟨rfl, st, z, rfl, h0, h1⟩
        exact ⟨_, rfl, q st H' s1⟩
def sp_purse : Sp := fun vs H Q _ => ∃ i : Int, vs = [.int i] ∧ ∀ l H', Same H H' → H l = none → PurH l H' → Q (.ref l) H'
theorem k_purse (T : Tx mg) (F : FnP K "_law_purse" s__law_purse f fd) (g : mg "_law_purse" = some (.ref f)) : Kn P w K mg base "_law_purse" 1 ["_law_cell_here"] sp_purse := by
  refine kn_of F g (F.ok c__law_purse (fun vs H Q E h => ?_) (fun cdv A outer s H vs Q E hr h => ?_)) (fun _ _ _ _ _ _ us hl => match us, hl with | [_], _ => rfl)
  · obtain ⟨i, rfl, _⟩ := h
    rfl
  · obtain ⟨i, rfl, q⟩ := h
    refine ⟨_, PSs.nox (pss_one (ps_ret (pe_lst (pa_cons (pe_op op_add (pe_op op_mul (pe_op op_mod (pv 0) pe_int) pe_int) pe_int)
      (pa_cons (pe_ix ix_list (pe_lst (pa_cons pe_int (pa_cons (pv 0) pa_nil))) (pe_callTy call_int1 (by rfl) T.int boot_int (pa_cons (pe_cmpR op_ge (pv 0) (pe_op op_pow pe_int pe_int) (nomark _)) pa_nil)) (fun _ _ => rfl)) (pa_cons pe_int pa_nil)))))), ?_⟩
    refine ⟨_, rfl, i, _, rfl, rfl, (by show (0 : Int) < 1000000289; decide), _, _, rfl, rfl, .inr ⟨by decide, by decide⟩, _, _, rfl, rfl, ?_⟩
    refine ⟨_, rfl, by show 2 ≤ sizeLine; decide, fun tl htl => ?_⟩
    have s1 : Same H (upd H tl (.lst [.int 0, .int i])) := sm_new htl
    have etl : upd H tl (.lst [.int 0, .int i]) tl = some (.lst [.int 0, .int i]) := upd_same
    generalize upd H tl (.lst [.int 0, .int i]) = H1 at s1 etl
    refine ⟨_, rfl, 10, 18, rfl, rfl, ⟨by decide, by decide, by decide⟩, _, _, rfl, rfl, .inr ⟨_, rfl, ?_⟩⟩
    have fin : ∀ b : Bool, ∃ y : Int, rIxL K (.ref tl) (.int (if b then 1 else 0)) H1 (fun v H => v = .int y ∧ H = H1) := by
      intro b
      cases b with
      | false => exact ⟨0, tl, _, 0, .int 0, rfl, rfl, SqL.of etl, rfl, rfl, rfl⟩
      | true => exact ⟨i, tl, _, 1, .int i, rfl, rfl, SqL.of etl, rfl, rfl, rfl⟩
    obtain ⟨y, tl', xs', k', v', e1, e2, e3, e4, e5, _⟩ := fin (decide ((10 : Int) ^ (18 : Int).toNat ≤ i))
    subst e5
    refine ⟨tl', xs', k', .int y, e1, e2, e3, e4, ?_⟩
    refine ⟨by show 3 ≤ sizeLine; decide, fun pl hpl => q pl _ (s1.trans (sm_new hpl)) (s1.free hpl) ⟨_, _, _, upd_same⟩⟩
def sp_pick : Sp := fun vs H Q _ => ∃ l, ∃ c : Nat, vs = [.ref l, .int (c : Int)] ∧ 0 < c ∧ c < 1073741824 ∧ PurH l H ∧ ∀ r : Nat, ∀ H', Pw l H H' → r < c → Q (.int (r : Int)) H'
theorem k_pick (F : FnP K "_law_pick" s__law_pick f fd) (g : mg "_law_pick" = some (.ref f)) : Kn P w K mg base "_law_pick" 1 ["_law_purse_here", "_law_count"] sp_pick := by
  refine kn_of F g (F.ok c__law_pick (fun vs H Q E h => ?_) (fun cdv A outer s H vs Q E hr h => ?_)) (fun _ _ _ _ _ _ us hl => match us, hl with | [_, _], _ => rfl)
  · obtain ⟨l, c, rfl, _⟩ := h
    rfl
  · obtain ⟨l, c, rfl, hc0, hc1, ⟨x, y, z, hl⟩, q⟩ := h
    have nd := c__law_pick.nd
    refine ⟨_, PSs.nox (pss_cons (ps_asg (pe_op op_add (pe_ix ix_list (pv 0) pe_int (fun _ _ => rfl)) pe_int) (pg_sub (pv 0) pe_int set_list))
      (pss_cons (ps_set (i := 2) nd rfl (.inl rfl) (pe_op op_mod (pe_ix ix_list (pv 0) pe_int (fun _ _ => rfl)) pe_int))
      (pss_cons (ps_asg (pe_op op_add (pe_op op_mul (pv 2) (pe_op op_add (pe_op op_mod (pv 2) pe_int) pe_int)) (pe_op op_mul pe_int (pe_ix ix_list (pv 0) pe_int (fun _ _ => rfl)))) (pg_sub (pv 0) pe_int set_list))
      (pss_cons (ps_if (pt_cmpR op_gt (pe_ix ix_list (pv 0) pe_int (fun _ _ => rfl)) pe_int (nomark _))
        (pss_cons (ps_set (i := 3) nd rfl (.inl rfl) (pe_op op_mod (pe_ix ix_list (pv 0) pe_int (fun _ _ => rfl)) (pv 1)))
        (pss_cons (ps_asg (pe_op op_fdiv (pe_ix ix_list (pv 0) pe_int (fun _ _ => rfl)) (pv 1)) (pg_sub (pv 0) pe_int set_list)) (pss_one (ps_ret (pv 3))))) pss_nil)
      (pss_one (ps_ret (pe_op op_mod (pe_op op_fdiv (pe_op op_mod (pe_ix ix_list (pv 0) pe_int (fun _ _ => rfl)) pe_int) pe_int) (pv 1)))))))), ?_⟩
    refine ⟨.ref l, rfl, l, _, 2, .int z, rfl, rfl, SqL.of hl, rfl, z, 1, rfl, rfl, .ref l, rfl, l, _, 2, 2, rfl, rfl, hl, rfl, ?_⟩
    have x1 : Ex l H (upd H l (.lst ([V.int x, .int y, .int z].set 2 (.int (z + 1))))) := fun c o hc h => by rw [upd_ne hc]; exact h
    have e1 : upd H l (.lst ([V.int x, .int y, .int z].set 2 (.int (z + 1)))) l = some (.lst [.int x, .int y, .int (z + 1)]) := upd_same
    generalize upd H l (.lst ([V.int x, .int y, .int z].set 2 (.int (z + 1)))) = H1 at x1 e1
    refine ⟨.ref l, rfl, l, _, 0, .int x, rfl, rfl, SqL.of e1, rfl, x, _, rfl, rfl, (by show (0 : Int) < 1000000289; decide), ?_⟩
    have hst0 : 0 ≤ x % 1000000289 := Int.emod_nonneg _ (by decide)
    have hst1 : x % 1000000289 < 1000000289 := Int.emod_lt_of_pos _ (by decide)
    refine ⟨_, rfl, _, rfl, x % 1000000289, _, rfl, rfl, (by show (0 : Int) < 50021; decide), _, _, rfl, rfl, x % 1000000289, _, rfl, rfl, .inl ⟨by omega, by omega⟩, .ref l, rfl, l, _, 2, .int (z + 1), rfl, rfl, SqL.of e1, rfl, 80021, (z + 1), rfl, rfl, .inl ⟨by decide, by decide⟩, _, _, rfl, rfl, .ref l, rfl, l, _, 0, 0, rfl, rfl, e1, rfl, ?_⟩
    generalize hH2 : upd H1 l _ = H2
    have x2 : Ex l H H2 := by
      rw [← hH2]
      exact fun c o hc h => by rw [upd_ne hc]; exact x1 c o hc h
    obtain ⟨x', hx'⟩ : ∃ x' : Int, x' = x % 1000000289 * (x % 1000000289 % 50021 + 20011) + 80021 * (z + 1) := ⟨_, rfl⟩
    have e2 : H2 l = some (.lst [.int x', .int y, .int (z + 1)]) := by
      rw [← hH2, hx']
      exact upd_same
    refine ⟨.ref l, rfl, l, _, 1, .int y, rfl, rfl, SqL.of e2, rfl, y, 0, rfl, rfl, _, rfl, ?_⟩
    have hcpos : (0 : Int) < (c : Int) := by omega
    by_cases hy : 0 < y
    · rw [decide_eq_true hy]
      refine iteT ⟨.ref l, rfl, l, _, 1, .int y, rfl, rfl, SqL.of e2, rfl, _, rfl, y, (c : Int), rfl, rfl, hcpos, ?_⟩
      refine ⟨.ref l, rfl, l, _, 1, .int y, rfl, rfl, SqL.of e2, rfl, _, rfl, y, (c : Int), rfl, rfl, ⟨hcpos, by omega⟩, .ref l, rfl, l, _, 1, 1, rfl, rfl, e2, rfl, ?_⟩
      have hm0 : 0 ≤ y % (c : Int) := Int.emod_nonneg _ (by omega)
      have hm1 : y % (c : Int) < (c : Int) := Int.emod_lt_of_pos _ hcpos
      refine ⟨_, rfl, ?_⟩
      have := q (y % (c : Int)).toNat (upd H2 l (.lst ([V.int x', .int y, .int (z + 1)].set 1 (.int (y / (c : Int)))))) ⟨fun c o hc h => by rw [upd_ne hc]; exact x2 c o hc h, _, _, _, upd_same⟩ (by omega)
      rw [Int.toNat_of_nonneg hm0] at this
      exact this
    · rw [decide_eq_false hy]
      refine iteF ⟨.ref l, rfl, l, _, 0, .int x', rfl, rfl, SqL.of e2, rfl, x', _, rfl, rfl, (by show (0 : Int) < 1000000289; decide), _, 16, rfl, rfl, ⟨by decide, by decide⟩, _, rfl, _, (c : Int), rfl, rfl, hcpos, ?_⟩
      have hm0 : 0 ≤ (x' % 1000000289 / 16) % (c : Int) := Int.emod_nonneg _ (by omega)
      have hm1 : (x' % 1000000289 / 16) % (c : Int) < (c : Int) := Int.emod_lt_of_pos _ hcpos
      have := q ((x' % 1000000289 / 16) % (c : Int)).toNat H2 ⟨x2, _, _, _, e2⟩ (by omega)
      rw [Int.toNat_of_nonneg hm0] at this
      exact this
end
end Jr
set_option linter.all false
set_option maxRecDepth 100000
/-! A tree that grows by one place. -/
namespace Jr
theorem par_ext {t : List Nat} {u v : Nat} (h : v ≤ t.length) (h0 : 0 < v) : par (t ++ [u]) v = par t v := by
  unfold par
  rw [List.getD_eq_getElem?_getD, List.getD_eq_getElem?_getD, List.getElem?_append_left (by omega)]
theorem dist_ext {t : List Nat} {u : Nat} : ∀ x y, x ≤ t.length → y ≤ t.length → dist (t ++ [u]) x y = dist t x y := by
  refine two_ind t (fun x _ _ => by rw [dist_self, dist_self]) (fun x y h ih hx hy => ?_) (fun x y h ih hx hy => ?_)
  · rw [dist_gt h, dist_gt h, par_ext hx (by omega), ih (by have := par_lt t (v := x) (by omega); omega) hy]
  · rw [dist_lt h, dist_lt h, par_ext hy (by omega), ih hx (by have := par_lt t (v := y) (by omega); omega)]
theorem dist_new {t : List Nat} {u y : Nat} (hu : u ≤ t.length) (hy : y ≤ t.length) : dist (t ++ [u]) (t.length + 1) y = dist t u y + 1 := by
  rw [dist_gt (by omega)]
  have : par (t ++ [u]) (t.length + 1) = u := by
    unfold par
    rw [List.getD_eq_getElem?_getD, Nat.add_sub_cancel, List.getElem?_append_right (Nat.le_refl _), Nat.sub_self]
    show min u t.length = u
    omega
  rw [this, dist_ext u y hu hy]
/-- the places between two others -/
theorem mem_between {t : List Nat} {x y z : Nat} (hx : x ≤ t.length) (hy : y ≤ t.length) : z ∈ (List.range (t.length + 1)).filter (fun z => decide (dist t x z + dist t z y = dist t x y)) ↔ z ∈ path t x y := by
  rw [List.mem_filter, List.mem_range, decide_eq_true_eq, mem_path_iff]
  constructor
  · exact fun h => h.2
  · intro h
    refine ⟨?_, h⟩
    have := mem_path_le ((mem_path_iff t x y z).mpr h)
    omega
/-- one row more -/
theorem gaps_ext {t : List Nat} {u : Nat} (hu : u ≤ t.length) : gapsM (t ++ [u]) =
    ((gapsM t).zip (((List.range (t.length + 1)).map fun y => dist t u y).map (· + 1))).map (fun p => p.1 ++ [p.2]) ++ [(((List.range (t.length + 1)).map fun y => dist t u y).map (· + 1)) ++ [0]] := by
  unfold gapsM
  rw [List.length_append, List.length_singleton, List.map_map, List.zip_map', List.map_map, List.range_succ (n := t.length + 1), List.map_append, List.map_singleton, List.map_append, List.map_singleton, dist_self]
  have e1 : ∀ y ∈ List.range (t.length + 1), dist (t ++ [u]) (t.length + 1) y = dist t u y + 1 := fun y hy => dist_new hu (by have := List.mem_range.mp hy; omega)
  congr 1
  · refine List.map_congr_left fun x hx => ?_
    have hx' : x ≤ t.length := by have := List.mem_range.mp hx; omega
    rw [List.map_append, List.map_singleton, dist_comm, e1 x hx]
    show _ = (List.range (t.length + 1)).map (fun y => dist t x y) ++ [dist t u x + 1]
    congr 1
    exact List.map_congr_left fun y hy => dist_ext x y hx' (by have := List.mem_range.mp hy; omega)
  · congr 2
    exact List.map_congr_left e1
end Jr
set_option Elab.async false
set_option linter.all false
set_option maxRecDepth 100000
set_option maxHeartbeats 4000000
/-! The law's own defs: woods, their gaps. -/
namespace Jr
open PySem PySem.Spec PyProof.Rows L2
section
variable {J : It} {n : Nat} {G : Hp → Prop} {Y : Nat → Hp → V → Hp → Prop} {g : TG} {te : TE} {vs : List Nat} {σ : L2.St} {H1 : Hp} {Q : VK}
/-- a comprehension whose turns pick from the purse -/
theorem lc_mapX {α β : Type} {l : Addr} (w : Walk J n G Y) (as : List α) (hn : n = as.length) (hsz : as.length ≤ 100000) {RO : Rp β} (sR : Stb RO) (Rel : α → β → Prop) (hp : PurH l H1) (hG : ∀ H, Pw l H1 H → G H)
    (turn : ∀ (D : Addr) (i : Nat) (a : α) (x : V) (H H' : Hp) (Kn : V → Hp → Prop), H1 D = none → D ≠ l → as[i]? = some a → Pw l H1 H → Y i H x H' → (∀ y b H4, Pw l H H4 → RO H4 y b → Rel a b → Kn y H4) →
      g x (wipe σ vs) H' fun σ2 H2 => wipe σ2 vs = wipe σ vs ∧ te σ2 H2 Kn)
    (k : ∀ D ys bs H2, H1 D = none → Pw l H1 H2 → D ≠ l → H2 D = some (.lst ys) → Paired (RO H2) ys bs → Paired Rel as bs → Q (.ref D) H2) : LcG J g te vs σ H1 Q := by
  intro D hD
  subst hn
  have hDl : D ≠ l := fun e => by
    obtain ⟨x, y, z, h⟩ := hp
    rw [e, h] at hD; cases hD
  have hadd : ∀ H o, Pw l H1 H → Pw l H1 (upd H D o) := fun H o h => ⟨fun c ob hc he => by
    rw [upd_ne (ne_of_none he hD)]; exact h.ex c ob hc he, by
    obtain ⟨x, y, z, e⟩ := h.pur
    exact ⟨x, y, z, by rw [upd_ne (Ne.symm hDl)]; exact e⟩⟩
  refine lc_it w (fun i H => Pw l H1 H ∧ ∃ acc bs, H D = some (.lst acc) ∧ Paired (RO H) acc bs ∧ Paired Rel (as.take i) bs) ⟨hadd _ _ (Pw.refl hp), [], [], upd_same, .nil, .nil⟩ (fun i H _ h => hG H h.1) ?_ ?_
  · rintro i x H H' hi ⟨sm, acc, bs, hacc, pd, prel⟩ hy
    obtain ⟨a, ha⟩ := get_lt hi
    refine (turn D i a x H H' (fun y H4 => ∃ acc, H4 D = some (.lst acc) ∧ acc.length < sizeLine ∧ (Pw l H1 (upd H4 D (.lst (acc ++ [y]))) ∧ ∃ acc' bs, upd H4 D (.lst (acc ++ [y])) D = some (.lst acc') ∧ Paired (RO (upd H4 D (.lst (acc ++ [y])))) acc' bs ∧ Paired Rel (as.take (i + 1)) bs)) hD hDl ha sm hy ?_)
    intro y b H4 s4 r4 rel
    have e4 := s4.ex D _ hDl hacc
    have hlen : acc.length ≤ as.length := by
      rw [pd_len pd, ← pd_len prel, List.length_take]; omega
    have k4 : Kt H4 (upd H4 D (.lst (acc ++ [y]))) := kt_lst e4
    refine ⟨acc, e4, Nat.lt_of_le_of_lt (Nat.le_trans hlen hsz) (by decide), hadd _ _ (sm.trans s4), _, bs ++ [b], upd_same, pd_app (stb_pairs sR ((s4.kt sm.pur).trans k4) pd) (.cons (sR _ _ _ _ k4 r4) .nil), ?_⟩
    rw [take_snoc ha]
    exact pd_app prel (.cons rel .nil)
  · rintro H ⟨sm, acc, bs, hacc, pd, prel⟩
    rw [List.take_length] at prel
    exact k D acc bs H hD sm hDl hacc pd prel
end
section
variable {P : Program} {w : World} {K : PySem.W.Frag} {mg : Str → Option Value} {base : Heap} {f : Addr} {fd : FuncData} {C : Addr}
def sp_wood : Sp := fun vs H Q _ => ∃ l, ∃ m : Nat, vs = [.ref l, .int (m : Int)] ∧ 0 < m ∧ m ≤ 12 ∧ PurH l H ∧ ∀ v t H', Pw l H H' → NatsT H' v t → TreeOk t → t.length < m → Q v H'
theorem k_wood (T : Tx mg) (W : Kn P w K mg base "_law_pick" 1 ["_law_purse_here", "_law_count"] sp_pick) (F : FnP K "_law_wood" s__law_wood f fd) (g : mg "_law_wood" = some (.ref f)) : Kn P w K mg base "_law_wood" 2 ["_law_purse_here", "_law_most"] sp_wood := by
  refine kn_of F g (F.ok c__law_wood (fun vs H Q E h => ?_) (fun cdv A outer s H vs Q E hr h => ?_)) (fun _ _ _ _ _ _ us hl => match us, hl with | [_, _], _ => rfl)
  · obtain ⟨l, m, rfl, _⟩ := h
    rfl
  · obtain ⟨l, m, rfl, hm0, hm12, hp, q⟩ := h
    have nd := c__law_wood.nd
    refine ⟨_, PSs.nox (pss_cons (ps_asg (pe_tup (pa_cons (pe_kn W hr (pa_cons (pv 0) (pa_cons pe_int pa_nil))) (pa_cons (pe_op op_add pe_int (pe_kn W hr (pa_cons (pv 0) (pa_cons (pv 1) pa_nil)))) pa_nil)))
        (pg_tup (n := 2) rfl (pgs_cons (pg_name (i := 2) nd rfl (.inr rfl) (.inl rfl)) (pgs_cons (pg_name (i := 3) nd rfl (.inl rfl) (.inl rfl)) pgs_nil))))
      (pss_one (ps_ret (pe_tuple T (pe_lcm (own := [("_law_k", 4)]) (g := gName 4) nd (pi_range1 (by rfl) T.range (pa_cons (pe_op op_sub (pv 3) pe_int) pa_nil)) (blkOk_by (N := ["_law_purse_here", "_law_most", "_law_shape", "_law_count", "_law_k"]) (sc := defScope s__law_wood) (by decide +kernel)) (fun _ _ _ _ _ => pg_name (i := 4) nd rfl (.inl rfl) (.inr rfl))
        (te := tOp (rIxL K) (tLst (tCons (tVar 4) (tCons (tC (.int 0)) (tCons (tCall sp_pick [] E0 (tCons (tVar 0) (tCons (tOp (rI0 fun i j => .int (i + j)) (tVar 4) (tC (.int 1))) tNil))) tNil)))) (tVar 2))
        (fun _ _ _ _ _ => pe_ix ix_list (pe_lst (pa_cons (pv 4) (pa_cons pe_int (pa_cons (pe_kn W hr (pa_cons (pv 0) (pa_cons (pe_op op_add (pv 4) pe_int) pa_nil))) pa_nil)))) (pv 2) (fun _ _ => rfl))))))), ?_⟩
    refine ⟨_, rfl, l, 3, rfl, by omega, by omega, hp, fun sh H1 p1 hsh => ?_⟩
    refine ⟨_, rfl, _, rfl, l, m, rfl, hm0, by omega, p1.pur, fun r H2 p2 hr' => ?_⟩
    have p12 := p1.trans p2
    refine ⟨1, (r : Int), rfl, rfl, by show 2 ≤ sizeLine; decide, fun T1 hT1 => ?_⟩
    have s3 : Same H2 (upd H2 T1 (.tup [.int (sh : Int), .int (1 + (r : Int))])) := sm_new hT1
    have eT : upd H2 T1 (.tup [.int (sh : Int), .int (1 + (r : Int))]) T1 = some (.tup [.int (sh : Int), .int (1 + (r : Int))]) := upd_same
    refine ⟨T1, _, rfl, SqT.of eT, rfl, _, _, rfl, _, _, rfl, rfl, ?_⟩
    generalize upd H2 T1 (.tup [.int (sh : Int), .int (1 + (r : Int))]) = H3 at s3 eT
    have p13 := p12.trans (Pw.same p12.pur s3)
    refine ⟨_, rfl, _, _, rfl, rfl, ((1 + (r : Int)) - 1), rfl, by omega, by omega, ?_⟩
    have er : ((1 + (r : Int)) - 1).toNat = r := by omega
    rw [er]
    refine lc_mapX walk_range (List.range r) List.length_range.symm (by rw [List.length_range]; omega) stb_nat (fun k b => b ≤ k) p13.pur (fun _ _ => trivial) ?_ ?_
    · rintro D i a x H4 H4' Kn hD hDl ha p4 ⟨rfl, rfl⟩ kn
      have hi := (List.getElem?_eq_some_iff.mp ha).1
      rw [List.length_range] at hi
      have hia : i = a := by
        rw [List.getElem?_range hi] at ha
        simpa using ha
      subst hia
      have p14 := p13.trans p4
      refine ⟨rfl, _, rfl, _, rfl, _, rfl, _, _, rfl, rfl, l, i + 1, by rw [Int.zero_add]; rfl, by omega, by omega, p14.pur, fun rr H5 p5 hrr => ?_⟩
      refine ⟨by show 3 ≤ sizeLine; decide, fun L hL => ?_⟩
      have s6 := sm_new (H := H5) (o := .lst [.int (0 + (i : Int)), .int 0, .int (rr : Int)]) hL
      have p6 := p5.trans (Pw.same p5.pur s6)
      match sh, hsh with
      | 0, _ => exact ⟨_, rfl, L, _, 0, .int (i : Int), rfl, rfl, SqL.of upd_same, (by show some (V.int (0 + (i : Int))) = some (V.int (i : Int)); rw [Int.zero_add]), kn _ i _ p6 rfl (Nat.le_refl _)⟩
      | 1, _ => exact ⟨_, rfl, L, _, 1, .int 0, rfl, rfl, SqL.of upd_same, rfl, kn _ 0 _ p6 rfl (Nat.zero_le _)⟩
      | 2, _ => exact ⟨_, rfl, L, _, 2, .int (rr : Int), rfl, rfl, SqL.of upd_same, rfl, kn _ rr _ p6 rfl (by omega)⟩
    · intro D ys bs H4 hD p4 hDl e4 pd4 rel4
      refine tuple_lst e4 fun u hu => ?_
      have s5 := sm_new (H := H4) (o := .tup ys) hu
      have hbl : bs.length = r := by rw [← pd_len rel4, List.length_range]
      refine q _ bs _ ((p13.trans p4).trans (Pw.same p4.pur s5)) ⟨u, ys, rfl, upd_same, stb_pairs stb_nat (kt s5) pd4⟩ ⟨by omega, fun i b hb => ?_⟩ (by omega)
      obtain ⟨k, hk, hkb⟩ := pd_getr rel4 hb
      have hi := (List.getElem?_eq_some_iff.mp hk).1
      rw [List.length_range] at hi
      rw [List.getElem?_range hi] at hk
      have : i = k := by simpa using hk
      omega
end
end Jr
set_option Elab.async false
set_option linter.all false
set_option maxRecDepth 100000
set_option maxHeartbeats 4000000
/-! The law's own defs: gaps by hand, ways, limbs. -/
namespace Jr
open PySem PySem.Spec PyProof.Rows L2
section
variable {N : Nat} {G : Hp → Prop} {it : Nat → List V} {g : TG} {te : TE} {vs : List Nat} {σ : L2.St} {H1 : Hp} {Q : VK}
/-- over a zip of what stands while nothing is changed -/
theorem lc_prsS {α β γ : Type} {R : Rp α} {S : Rp β} (sR : ∀ H v a, Same H1 H → R H1 v a → R H v a) (sS : ∀ H v a, Same H1 H → S H1 v a → S H v a) {RO : Addr → Rp γ} (st : StD RO) {bs : List (α × β)} (hb : Pairs R S H1 it bs) (hN : N = bs.length) (hsz : bs.length ≤ 100000) (hG : ∀ H, Same H1 H → G H) (f : α × β → γ)
    (turn : ∀ (D : Addr) (b : α × β) (v : V) (H : Hp) (Kn : V → Hp → Prop), H1 D = none → (∃ acc, H D = some (.lst acc)) → b ∈ bs → Same H1 H → PairR R S H v b → (∀ y H4, Same H H4 → RO D H4 y (f b) → Kn y H4) →
      g v (wipe σ vs) H fun σ2 H2 => wipe σ2 vs = wipe σ vs ∧ te σ2 H2 Kn)
    (k : ∀ D ys H2, H1 D = none → Same H1 H2 → H2 D = some (.lst ys) → Paired (RO D H2) ys (bs.map f) → Q (.ref D) H2) : LcG (ItN N G it) g te vs σ H1 Q := by
  refine lc_map walk_N bs hN hsz st f hG (fun D i b x H H' Kn hD ⟨acc, hacc⟩ hbi sm hy kn => ?_) k
  obtain ⟨T, rfl, hT, rfl⟩ := hy
  obtain ⟨x, y, e, r1, r2⟩ := hb i b hbi
  have s2 : Same H (upd H T (.tup (it i))) := sm_new hT
  exact turn D b _ _ Kn hD ⟨acc, s2 _ _ hacc⟩ (List.mem_of_getElem? hbi) (sm.trans s2) ⟨T, x, y, rfl, by rw [upd_same, e], sR _ _ _ (sm.trans s2) r1, sS _ _ _ (sm.trans s2) r2⟩ fun y H4 s4 r4 => kn y H4 (s2.trans s4) r4
end
section
variable {P : Program} {w : World} {K : PySem.W.Frag} {mg : Str → Option Value} {base : Heap} {f : Addr} {fd : FuncData} {C : Addr}
def sp_lgaps : Sp := fun vs H Q _ => ∃ v t, vs = [v] ∧ NatsT H v t ∧ TreeOk t ∧ ∀ u H', Same H H' → MatR H' u (gapsM t) → Q u H'
theorem k_lgaps (T : Tx mg) (F : FnP K "_law_gaps" s__law_gaps f fd) (g : mg "_law_gaps" = some (.ref f)) : Kn P w K mg base "_law_gaps" 1 ["_law_wood_here"] sp_lgaps := by
  refine kn_of F g (F.ok c__law_gaps (fun vs H Q E h => ?_) (fun cdv A outer s H vs Q E hr h => ?_)) (fun _ _ _ _ _ _ us hl => match us, hl with | [_], _ => rfl)
  · obtain ⟨v, t, rfl, _⟩ := h
    rfl
  · obtain ⟨v, t, rfl, ⟨a, xs, rfl, ha, pd⟩, ok, q⟩ := h
    have nd := c__law_gaps.nd
    refine ⟨_, PSs.nox (pss_cons (ps_set (i := 1) nd rfl (.inl rfl) (pe_lst (pa_cons (pe_lst (pa_cons pe_int pa_nil)) pa_nil)))
      (pss_cons (ps_forG (g := gName 2) PassesOwn.never (pi_tup (pv 0)) (pg_name (i := 2) nd rfl (.inl rfl) (.inl rfl))
        (pss_cons (ps_lcm (i := 3) (own := [("_law_gap", 4)]) (g := gName 4) (te := tOp (rI0 fun i j => .int (i + j)) (tVar 4) (tC (.int 1))) nd rfl rfl (sw_true rfl rfl rfl (by decide +kernel)) (pi_list (pe_ix ix_list (pv 1) (pv 2) (fun _ _ => rfl)))
            (blkOk_by (N := ["_law_wood_here", "_law_found", "_law_up", "_law_last", "_law_gap", "_law_row"]) (sc := defScope s__law_gaps) (by decide +kernel)) (fun _ _ _ _ _ => pg_name (i := 4) nd rfl (.inl rfl) (.inr rfl))
            (fun _ _ _ _ _ => pe_op op_add (pv 4) pe_int))
        (pss_one (ps_set (i := 1) nd rfl (.inl rfl) (pe_op op_cat
          (pe_lcm (own := [("_law_row", 5), ("_law_gap", 4)]) (g := gTup K 2 (gCons (gName 5) (gCons (gName 4) gNil))) (te := tOp rCat (tVar 5) (tLst (tCons (tVar 4) tNil))) nd (pi_zip2 T.zip (pa_cons (pv 1) (pa_cons (pv 3) pa_nil)))
            (blkOk_by (N := ["_law_wood_here", "_law_found", "_law_up", "_law_last", "_law_gap", "_law_row"]) (sc := defScope s__law_gaps) (by decide +kernel))
            (fun _ _ _ _ _ => pg_tup (n := 2) rfl (pgs_cons (pg_name (i := 5) nd rfl (.inl rfl) (.inr rfl)) (pgs_cons (pg_name (i := 4) nd rfl (.inl rfl) (.inr rfl)) pgs_nil)))
            (fun _ _ _ _ _ => pe_op op_cat (pv 5) (pe_lst (pa_cons (pv 4) pa_nil))))
          (pe_lst (pa_cons (pe_op op_cat (pv 3) (pe_lst (pa_cons pe_int pa_nil))) pa_nil)))))))
      (pss_one (ps_ret (pv 1))))), ?_⟩
    have hxs := nvs_of pd
    subst hxs
    refine ⟨by show 1 ≤ sizeLine; decide, fun l0 hl0 => ⟨by show 1 ≤ sizeLine; decide, fun f0 hf0 => ?_⟩⟩
    have s0 : Same H (upd H l0 (.lst [.int 0])) := sm_new hl0
    have e0 : upd H l0 (.lst [.int 0]) l0 = some (.lst [.int 0]) := upd_same
    generalize upd H l0 (.lst [.int 0]) = H1 at s0 e0 hf0
    have s1 : Same H1 (upd H1 f0 (.lst [.ref l0])) := sm_new hf0
    have e1 : upd H1 f0 (.lst [.ref l0]) f0 = some (.lst [.ref l0]) := upd_same
    generalize upd H1 f0 (.lst [.ref l0]) = H2 at s1 e1
    have m0 : MatR H2 (.ref f0) (gapsM []) := ⟨f0, _, rfl, e1, .cons ⟨l0, rfl, by rw [s1 _ _ e0]; show _ = some (HO.lst [V.int ((dist [] 0 0 : Nat) : Int)]); rw [dist_self]; rfl⟩ .nil⟩
    have s2 := s0.trans s1
    refine ⟨.ref a, rfl, a, rfl, ⟨_, SqT.of (s2 _ _ ha)⟩, ?_⟩
    refine for_tup stb_nat (s2 _ _ ha) (nvs_pd t) (fun i σ H' => Same H2 H' ∧ ∃ fl x2 x3 x4 x5, σ = [some (.ref a), some (.ref fl), x2, x3, x4, x5] ∧ MatR H' (.ref fl) (gapsM (t.take i))) ⟨Same.refl _, f0, _, _, _, _, rfl, by rw [List.take_zero]; exact m0⟩ (fun i σ H' h => kt h.1) ?_ ?_
    · rintro i u vu σ H3 hu ⟨s3, fl, x2, x3, x4, x5, rfl, l, rows, hl, el, pr⟩ ru
      cases hl
      have hvu : vu = .int (u : Int) := ru
      subst hvu
      have hi := (List.getElem?_eq_some_iff.mp hu).1
      have htl : (t.take i).length = i := by rw [List.length_take]; omega
      have hui : u ≤ (t.take i).length := by rw [htl]; exact ok.2 i u hu
      have hin : i ≤ 11 := by have := ok.1; omega
      obtain ⟨rv, hrv, rq, rfl, erq⟩ := pd_getr pr (gaps_row hui)
      refine ⟨.ref fl, rfl, _, rfl, fl, _, (u : Int), .ref rq, rfl, rfl, SqL.of el, atI_nat hrv, rq, rfl, ⟨_, SqL.of erq⟩, ?_⟩
      refine lc_lstP stb_nat (Stb.d stb_nat) erq (nvs_pd _) (by rw [List.length_map, List.length_range]; omega) (fun y => y + 1) (fun D y vy H4 Kn hacc hy s4 ry kn => ⟨rfl, ?_⟩) (fun D ys H4 hD s4 e4 p4 => ?_)
      · have ry' : vy = .int (y : Int) := ry
        subst ry'
        exact ⟨_, rfl, _, _, rfl, rfl, kn _ H4 (Same.refl _) (by show V.int ((y : Int) + 1) = V.int ((y + 1 : Nat) : Int); rw [Int.natCast_succ])⟩
      · have hys := nvs_of p4
        subst hys
        generalize hlast : List.map (fun y => y + 1) ((List.range ((t.take i).length + 1)).map fun y => dist (t.take i) u y) = last at e4 p4
        have hll : last.length = i + 1 := by rw [← hlast, List.length_map, List.length_map, List.length_range, htl]
        have hgl : (gapsM (t.take i)).length = i + 1 := by unfold gapsM; rw [List.length_map, List.length_range, htl]
        have el4 := s4 _ _ el
        have pr4 : Paired (RowR H4) rows (gapsM (t.take i)) := Paired.mono (fun _ _ r => RowR.same s4 r) pr
        refine ⟨.ref fl, rfl, .ref D, rfl, _, _, .l, .l, _, _, rfl, ⟨fl, rfl, SqL.of el4⟩, ⟨D, rfl, SqL.of e4⟩, ?_⟩
        refine lc_prsS (R := RowR) (S := NatR) (RO := RowD) (fun H v a s r => RowR.same s r) (fun H v a s r => r) std_row (pairs_zip pr4 (nvs_pd last)) (by rw [List.length_zip, pd_len pr4, nvs_len]) (by rw [List.length_zip]; omega)
          (fun H s => ⟨⟨fl, rfl, SqL.of (s _ _ el4)⟩, ⟨D, rfl, SqL.of (s _ _ e4)⟩⟩) (fun p => p.1 ++ [p.2]) (fun D5 p v5 H5 Kn hD5 hacc hp s5 rp kn => ?_) (fun D5 zs H5 hD5 s5 e5 p5 => ?_)
        · refine g_pair rp fun x y rx ry => ⟨rfl, ?_⟩
          obtain ⟨q5, rfl, eq5⟩ := rx
          have ry' : y = .int (p.2 : Int) := ry
          subst ry'
          have hpl : p.1.length ≤ 12 := by
            obtain ⟨hp1, _⟩ := List.of_mem_zip hp
            obtain ⟨k, _, hk⟩ := List.mem_map.mp hp1
            rw [← hk, List.length_map, List.length_range, htl]; omega
          refine ⟨.ref q5, rfl, _, rfl, by show 1 ≤ sizeLine; decide, fun L hL => ?_⟩
          have s6 : Same H5 (upd H5 L (.lst [.int (p.2 : Int)])) := sm_new hL
          have e6 : upd H5 L (.lst [.int (p.2 : Int)]) L = some (.lst [.int (p.2 : Int)]) := upd_same
          generalize upd H5 L (.lst [.int (p.2 : Int)]) = H6 at s6 e6
          refine ⟨q5, L, _, _, rfl, rfl, s6 _ _ eq5, e6, Nat.le_trans (by rw [nvs_len]; show _ + 1 ≤ 13; omega) (show 13 ≤ sizeLine by decide), fun z hz => ?_⟩
          refine kn _ _ (s6.trans (sm_new hz)) ⟨z, rfl, fun e => ?_, by rw [upd_same, nvs_app]; rfl⟩
          obtain ⟨acc, hacc⟩ := hacc
          rw [e, s6 _ _ hacc] at hz
          cases hz
        · have e45 := s5 _ _ e4
          refine ⟨.ref D, rfl, by show 1 ≤ sizeLine; decide, fun L hL => ?_⟩
          have s6 : Same H5 (upd H5 L (.lst [.int 0])) := sm_new hL
          have e6 : upd H5 L (.lst [.int 0]) L = some (.lst [.int 0]) := upd_same
          generalize upd H5 L (.lst [.int 0]) = H6 at s6 e6
          refine ⟨D, L, _, _, rfl, rfl, s6 _ _ e45, e6, Nat.le_trans (by rw [nvs_len, hll]; show _ + 1 ≤ 13; omega) (show 13 ≤ sizeLine by decide), fun z hz => ?_⟩
          have s7 : Same H6 (upd H6 z (.lst (nvs last ++ [.int 0]))) := sm_new hz
          have e7 : upd H6 z (.lst (nvs last ++ [.int 0])) z = some (.lst (nvs last ++ [.int 0])) := upd_same
          generalize upd H6 z (.lst (nvs last ++ [.int 0])) = H7 at s7 e7
          refine ⟨by show 1 ≤ sizeLine; decide, fun L2 hL2 => ?_⟩
          have s8 : Same H7 (upd H7 L2 (.lst [.ref z])) := sm_new hL2
          have e8 : upd H7 L2 (.lst [.ref z]) L2 = some (.lst [.ref z]) := upd_same
          generalize upd H7 L2 (.lst [.ref z]) = H8 at s8 e8
          have s58 := (s6.trans s7).trans s8
          refine ⟨D5, L2, _, _, rfl, rfl, s58 _ _ e5, e8, Nat.le_trans (by rw [pd_len p5, List.length_map, List.length_zip, hgl, hll]; show _ + 1 ≤ 14; omega) (show 14 ≤ sizeLine by decide), fun y hy => ?_⟩
          have s9 : Same H8 (upd H8 y (.lst (zs ++ [.ref z]))) := sm_new hy
          have s59 := s58.trans s9
          refine ⟨((s3.trans s4).trans s5).trans s59, y, _, _, _, _, rfl, y, _, rfl, upd_same, ?_⟩
          rw [take_snoc hu, gaps_ext hui, hlast]
          refine pd_app (Paired.mono (fun _ _ r => RowR.same s59 (RowD.row r)) p5) (.cons ⟨z, rfl, ?_⟩ .nil)
          rw [s9 _ _ (s8 _ _ e7), nvs_app]; rfl
    · rintro σ H3 ⟨s3, fl, x2, x3, x4, x5, rfl, m⟩
      rw [List.take_length] at m
      exact ⟨_, rfl, q _ H3 (s2.trans s3) m⟩
end
end Jr
set_option Elab.async false
set_option linter.all false
set_option maxRecDepth 100000
set_option maxHeartbeats 4000000
/-! The law's own defs: ways and limbs by hand. -/
namespace Jr
open PySem PySem.Spec PyProof.Rows L2
section
variable {P : Program} {w : World} {K : PySem.W.Frag} {mg : Str → Option Value} {base : Heap} {f : Addr} {fd : FuncData} {C : Addr}
def btw (t : List Nat) (x y : Nat) : List Nat := (List.range (t.length + 1)).filter fun z => decide (dist t x z + dist t z y = dist t x y)
theorem btw_len (t : List Nat) (x y : Nat) : (btw t x y).length ≤ t.length + 1 := Nat.le_trans (List.length_filter_le _ _) (by rw [List.length_range]; exact Nat.le_refl _)
theorem ix2 {t : List Nat} {H : Hp} {m : V} {x y i j k : Nat} {σ : L2.St} {Q : VK} (hm : MatR H m (gapsM t)) (hx : x ≤ t.length) (hy : y ≤ t.length) (ei : σ[i]? = some (some m)) (ej : σ[j]? = some (some (.int (x : Int)))) (ek : σ[k]? = some (some (.int (y : Int))))
    (q : Q (.int (dist t x y : Nat)) H) : tOp (rIxL K) (tOp (rIxL K) (tVar i) (tVar j)) (tVar k) σ H Q := by
  obtain ⟨l, xs, rfl, hl, pr⟩ := hm
  obtain ⟨rv, hrv, rq, rfl, erq⟩ := pd_getr pr (gaps_row hx)
  refine ⟨_, ei, _, ej, l, _, (x : Int), .ref rq, rfl, rfl, SqL.of hl, atI_nat hrv, _, ek, rq, _, (y : Int), _, rfl, rfl, SqL.of erq, atI_nat (nvs_get ?_), q⟩
  rw [List.getElem?_map, List.getElem?_range (by omega)]; rfl
def sp_wayof : Sp := fun vs H Q _ => ∃ m t, ∃ x y : Nat, vs = [m, .int x, .int y] ∧ MatR H m (gapsM t) ∧ t.length ≤ 11 ∧ x ≤ t.length ∧ y ≤ t.length ∧ ∀ l H', Same H H' → H' l = some (.lst (nvs (btw t x y))) → Q (.ref l) H'
theorem k_wayof (T : Tx mg) (F : FnP K "_law_way_of" s__law_way_of f fd) (g : mg "_law_way_of" = some (.ref f)) : Kn P w K mg base "_law_way_of" 1 ["_law_rows", "_law_first", "_law_last"] sp_wayof := by
  refine kn_of F g (F.ok c__law_way_of (fun vs H Q E h => ?_) (fun cdv A outer s H vs Q E hr h => ?_)) (fun _ _ _ _ _ _ us hl => match us, hl with | [_, _, _], _ => rfl)
  · obtain ⟨v, t, x, y, rfl, _⟩ := h
    rfl
  · obtain ⟨m, t, x, y, rfl, hm, h11, hx, hy, q⟩ := h
    have nd := c__law_way_of.nd
    refine ⟨_, PSs.nox (pss_one (ps_ret (pe_lcf (own := [("_law_stop", 3)]) (g := gName 3)
        (tt := tTest (tOp rEq (tOp (rI0 fun i j => .int (i + j)) (tOp (rIxL K) (tOp (rIxL K) (tVar 0) (tVar 1)) (tVar 3)) (tOp (rIxL K) (tOp (rIxL K) (tVar 0) (tVar 3)) (tVar 2))) (tOp (rIxL K) (tOp (rIxL K) (tVar 0) (tVar 1)) (tVar 2))))
        (te := tVar 3) nd (pi_range1 (by rfl) T.range (pa_cons (pe_len T (pv 0)) pa_nil))
        (blkOk_by (N := ["_law_rows", "_law_first", "_law_last", "_law_stop"]) (sc := defScope s__law_way_of) (by decide +kernel)) (fun _ _ _ _ _ => pg_name (i := 3) nd rfl (.inl rfl) (.inr rfl))
        (fun _ _ _ _ _ => pt_cmpR op_eq (pe_op op_add (pe_ix ix_list (pe_ix ix_list (pv 0) (pv 1) (fun _ _ => rfl)) (pv 3) (fun _ _ => rfl)) (pe_ix ix_list (pe_ix ix_list (pv 0) (pv 3) (fun _ _ => rfl)) (pv 2) (fun _ _ => rfl)))
          (pe_ix ix_list (pe_ix ix_list (pv 0) (pv 1) (fun _ _ => rfl)) (pv 2) (fun _ _ => rfl)) (nomark _)) (fun _ _ _ _ _ => pv 3)))), ?_⟩
    have hm0 := hm
    obtain ⟨l, xs, rfl, hl, pr⟩ := hm
    have hlen : xs.length = t.length + 1 := by rw [pd_len pr]; unfold gapsM; rw [List.length_map, List.length_range]
    refine ⟨.ref l, rfl, ?_⟩
    refine len_lst hl hlen ⟨((t.length + 1 : Nat) : Int), rfl, by omega, by omega, ?_⟩
    rw [Int.toNat_natCast]
    refine lc_sel walk_range (List.range (t.length + 1)) List.length_range.symm (by rw [List.length_range]; omega) (Stb.d stb_nat) (fun z => decide (dist t x z + dist t z y = dist t x y)) (fun z => z) (fun _ _ => trivial) ?_ ?_
    · rintro D i z vz H2 H2' Kn Ks hD hacc hz s2 ⟨rfl, rfl⟩ kn ks
      have hi := (List.getElem?_eq_some_iff.mp hz).1
      rw [List.length_range] at hi
      rw [List.getElem?_range hi] at hz
      cases hz
      have hm2 := MatR.same s2 hm0
      refine ⟨rfl, ?_⟩
      refine ix2 hm2 hx (show i ≤ t.length by omega) rfl rfl (by show some (some (V.int (0 + (i : Int)))) = _; rw [Int.zero_add]) ?_
      refine ix2 hm2 (show i ≤ t.length by omega) hy rfl (by show some (some (V.int (0 + (i : Int)))) = _; rw [Int.zero_add]) rfl ?_
      refine ⟨_, _, rfl, rfl, ?_⟩
      refine ix2 hm2 hx hy rfl rfl rfl ?_
      refine ⟨rfl, _, rfl, ?_⟩
      by_cases e : dist t x i + dist t i y = dist t x y
      · rw [decide_eq_true (show V.int (((dist t x i : Nat) : Int) + ((dist t i y : Nat) : Int)) = V.int ((dist t x y : Nat) : Int) by rw [← e, Int.natCast_add])]
        exact iteT ⟨_, rfl, kn (decide_eq_true e) _ _ (Same.refl _) (by show V.int (0 + (i : Int)) = _; rw [Int.zero_add])⟩
      · rw [decide_eq_false (fun h => e (by
          have h' : V.int (((dist t x i : Nat) : Int) + ((dist t i y : Nat) : Int)) = V.int ((dist t x y : Nat) : Int) := h
          injection h' with h'
          omega))]
        exact iteF (ks (decide_eq_false e) _ (Same.refl _))
    · intro D ys H2 hD s2 e2 p2
      rw [List.map_id'] at p2
      have hys := nvs_of p2
      subst hys
      exact q D H2 s2 e2
def sp_limb : Sp := fun vs H Q _ => ∃ m u t x r, vs = [m, u] ∧ MatR H m (gapsM t) ∧ t.length ≤ 11 ∧ LstOf NatR H u (x :: r) ∧ r.length ≤ 3 ∧ (∀ y ∈ x :: r, y ≤ t.length) ∧
  ∀ u' H' b, Same H H' → NatsT H' u' b → Hangs t b → Q u' H'
theorem k_limb (T : Tx mg) (W : Kn P w K mg base "_law_way_of" 1 ["_law_rows", "_law_first", "_law_last"] sp_wayof) (F : FnP K "_law_limb_by" s__law_limb_by f fd) (g : mg "_law_limb_by" = some (.ref f)) : Kn P w K mg base "_law_limb_by" 2 ["_law_rows", "_law_some"] sp_limb := by
  refine kn_of F g (F.ok c__law_limb_by (fun vs H Q E h => ?_) (fun cdv A outer s H vs Q E hr h => ?_)) (fun _ _ _ _ _ _ us hl => match us, hl with | [_, _], _ => rfl)
  · obtain ⟨m, u, t, x, r, rfl, _⟩ := h
    rfl
  · obtain ⟨m, u, t, x, r, rfl, hm, h11, ⟨la, lxs, rfl, hla, pdl⟩, hrl, hb, q⟩ := h
    have nd := c__law_limb_by.nd
    have hcalm := hr.hd
    refine ⟨_, PSs.nox (pss_cons (ps_set (i := 2) nd rfl (.inl rfl) (pe_lst pa_nil))
      (pss_cons (ps_forG (g := gName 3) PassesOwn.never (pi_list (pv 1)) (pg_name (i := 3) nd rfl (.inl rfl) (.inl rfl))
        (pss_one (ps_set (i := 2) nd rfl (.inl rfl) (pe_op op_cat (pv 2) (pe_kn W hr (pa_cons (pv 0) (pa_cons (pe_ix ix_list (pv 1) pe_int (fun _ _ => rfl)) (pa_cons (pv 3) pa_nil))))))))
      (pss_one (ps_ret (pe_tuple T (pe_sortedS (w := w) T rfl (pe_setI (w := w) T rfl (pv 2)))))))), ?_⟩
    have hlx := nvs_of pdl
    subst hlx
    refine ⟨by show 0 ≤ sizeLine; exact Nat.zero_le _, fun f0 hf0 => ?_⟩
    have s1 : Same H (upd H f0 (.lst [])) := sm_new hf0
    have e1 : upd H f0 (.lst []) f0 = some (.lst (nvs [])) := upd_same
    generalize upd H f0 (.lst []) = H1 at s1 e1
    have ela1 := s1 _ _ hla
    have hxb := hb x List.mem_cons_self
    refine ⟨.ref la, rfl, la, rfl, ⟨_, SqL.of ela1⟩, ?_⟩
    refine for_lst (H0 := H1) (R := NatR) (Rl := fun H' => Same H1 H') (fun H' v a _ r => r) (fun H' s' => s' _ _ ela1) (nvs_pd (x :: r))
      (fun i σ H' => Same H1 H' ∧ ∃ fl fnd x3, σ = [some m, some (.ref la), some (.ref fl), x3] ∧ H' fl = some (.lst (nvs fnd)) ∧ fnd.length ≤ i * 12 ∧ ∀ z, z ∈ fnd ↔ ∃ y ∈ (x :: r).take i, z ∈ path t x y)
      ⟨Same.refl _, f0, [], _, rfl, e1, by show 0 ≤ _; omega, fun z => ⟨fun h => (nomatch h), fun ⟨y, hy, _⟩ => (nomatch hy)⟩⟩ (fun i σ H' h => h.1) ?_ ?_
    · rintro i y vy σ H2 hy ⟨s2, fl, fnd, x3, rfl, efl, hfl, hfm⟩ ry
      have hvy : vy = .int (y : Int) := ry
      subst hvy
      have hyb := hb y (List.mem_of_getElem? hy)
      have hi : i < r.length + 1 := (List.getElem?_eq_some_iff.mp hy).1
      refine ⟨.ref fl, rfl, m, rfl, .ref la, rfl, la, _, ((0 : Nat) : Int), .int (x : Int), rfl, rfl, SqL.of (s2 _ _ ela1), atI_nat (nvs_get rfl), _, rfl, m, t, x, y, rfl, MatR.same (s1.trans s2) hm, h11, hxb, hyb, fun l H3 s3 e3 => ?_⟩
      have hbl := btw_len t x y
      refine ⟨fl, l, _, _, rfl, rfl, s3 _ _ efl, e3, Nat.le_trans (by rw [nvs_len, nvs_len]; show _ ≤ 100; omega) (show 100 ≤ sizeLine by decide), fun z hz => ?_⟩
      refine ⟨(s2.trans s3).trans (sm_new hz), z, fnd ++ btw t x y, _, rfl, by rw [upd_same, nvs_app], by rw [List.length_append]; omega, fun k => ?_⟩
      rw [List.mem_append, hfm k, take_snoc hy]
      have hmb : k ∈ btw t x y ↔ k ∈ path t x y := mem_between hxb hyb
      rw [hmb]
      constructor
      · rintro (⟨y', h1, h2⟩ | h)
        · exact ⟨y', List.mem_append_left _ h1, h2⟩
        · exact ⟨y, List.mem_append_right _ List.mem_cons_self, h⟩
      · rintro ⟨y', h1, h2⟩
        rcases List.mem_append.mp h1 with h1 | h1
        · exact .inl ⟨y', h1, h2⟩
        · rw [List.mem_singleton] at h1
          exact .inr (h1 ▸ h2)
    · rintro σ H2 ⟨s2, fl, fnd, x3, rfl, efl, hfl, hfm⟩
      rw [List.take_length] at hfm
      have hfl48 : fnd.length ≤ 48 := Nat.le_trans hfl (by rw [List.length_cons]; omega)
      refine ⟨.ref fl, rfl, ?_⟩
      refine ⟨⟨fl, fnd.map fun n : Nat => (n : Int), rfl, .inr (SqL.of (by rw [← nats_ints]; exact efl)), by rw [List.length_map]; omega, fun sa n hsa hn => ?_⟩⟩
      rw [List.length_map] at hn
      have s3 : Same H2 (upd H2 sa (SetO w sa (fun j => decide (j ∈ fnd.map fun n : Nat => (n : Int))) n)) := sm_new hsa
      refine ⟨⟨sa, _, n, rfl, upd_same, by omega, fun ns pa h1 h2 h3 hpa => ?_⟩⟩
      generalize hH4 : upd H2 sa (SetO w sa (fun j => decide (j ∈ fnd.map fun n : Nat => (n : Int))) n) = H4 at s3 hpa
      have hmem : ∀ k : Int, k ∈ ns ↔ ∃ n ∈ fnd, (n : Int) = k := fun k => by
        rw [h2 k, decide_eq_true_eq, List.mem_map]
      have hnn : ∀ k ∈ ns, 0 ≤ k := fun k hk => by
        obtain ⟨n, _, e⟩ := (hmem k).mp hk
        omega
      have hb' := ints_nats hnn
      generalize hbb : ns.map Int.toNat = b at hb'
      have s5 : Same H4 (upd H4 pa (.lst (ns.map V.int))) := sm_new hpa
      refine tuple_lst upd_same fun ta hta => ?_
      have s6 := sm_new (H := upd H4 pa (.lst (ns.map V.int))) (o := .tup (ns.map V.int)) hta
      have hrise : Rises b := by
        rw [hb'] at h1
        exact (List.pairwise_map.mp h1).imp fun h => by omega
      have hmb : ∀ z, z ∈ b ↔ ∃ y ∈ x :: r, z ∈ path t x y := fun z => by
        rw [← hfm z]
        constructor
        · intro hz
          have : (z : Int) ∈ ns := by rw [hb']; exact List.mem_map.mpr ⟨z, hz, rfl⟩
          obtain ⟨n, hn, e⟩ := (hmem z).mp this
          have : n = z := by omega
          exact this ▸ hn
        · intro hz
          have := (hmem (z : Int)).mpr ⟨z, hz, rfl⟩
          rw [hb'] at this
          obtain ⟨n, hn, e⟩ := List.mem_map.mp this
          have : n = z := by omega
          exact this ▸ hn
      refine q _ _ b ((((s1.trans s2).trans s3).trans s5).trans s6) ⟨ta, _, rfl, upd_same, ?_⟩ (conv_hangs hrise ?_ (fun v hv => ?_) (fun a c ha hc z hz => ?_))
      · rw [hb', ← nats_ints]
        exact nvs_pd b
      · intro e
        have : x ∈ b := (hmb x).mpr ⟨x, List.mem_cons_self, by rw [path_self]; exact List.mem_singleton.mpr rfl⟩
        rw [e] at this
        cases this
      · obtain ⟨y, hy, hv'⟩ := (hmb v).mp hv
        have h1 := mem_path_le hv'
        have h2 := hb y hy
        omega
      · exact (hmb z).mpr (conv_union a c ((hmb a).mp ha) ((hmb c).mp hc) z hz)
end
end Jr
set_option Elab.async false
set_option linter.all false
set_option maxRecDepth 100000
set_option maxHeartbeats 4000000
/-! The law's own defs: pieces and points by picks. -/
namespace Jr
open PySem PySem.Spec PyProof.Rows L2
theorem pw_mut {l c : Addr} {H H' : Hp} {o : HO} (p : Pw l H H') (hp : PurH l H) (hc : H c = none) : Pw l H (upd H' c o) := by
  have hcl : l ≠ c := fun e => by
    obtain ⟨x, y, z, h⟩ := hp
    rw [e, hc] at h; cases h
  exact ⟨fun d ob hd he => by rw [upd_ne (ne_of_none he hc)]; exact p.ex d ob hd he, by
    obtain ⟨x, y, z, e⟩ := p.pur
    exact ⟨x, y, z, by rw [upd_ne hcl]; exact e⟩⟩
theorem kt_unl {H H' : Hp} {c : Addr} {ys : List V} (h : Kt H H') : Kt (upd H c (.lst ys)) H' := fun a xs e => by
  by_cases q : a = c
  · subst q; rw [upd_same] at e; cases e
  · rw [upd_ne q] at e; exact h _ _ e
theorem pok_snoc : ∀ {ts : Trs} {P : Prt} {t : List Nat} {b : List Nat}, Pok ts P → Hangs t b → Pok (ts ++ [t]) (P ++ [b])
  | [], [], _, _, _, h => ⟨h, trivial⟩
  | _ :: _, _ :: _, _, _, ⟨h1, h2⟩, h => ⟨h1, pok_snoc h2 h⟩
  | [], _ :: _, _, _, h, _ => h.elim
  | _ :: _, [], _, _, h, _ => h.elim
theorem pok_len : ∀ {ts : Trs} {P : Prt}, Pok ts P → P.length = ts.length
  | [], [], _ => rfl
  | _ :: _, _ :: _, ⟨_, h⟩ => congrArg (· + 1) (pok_len h)
  | [], _ :: _, h => h.elim
  | _ :: _, [], h => h.elim
section
variable {P : Program} {w : World} {K : PySem.W.Frag} {mg : Str → Option Value} {base : Heap} {f : Addr} {fd : FuncData} {C : Addr}
def sp_piece : Sp := fun vs H Q _ => ∃ l v ts, vs = [.ref l, v] ∧ PurH l H ∧ TupOf NatsT H v ts ∧ (∀ t ∈ ts, TreeOk t) ∧ ts.length ≤ 4 ∧ ∀ u P H', Pw l H H' → PartT H' u P → Pok ts P → Q u H'
theorem k_piece (T : Tx mg) (W1 : Kn P w K mg base "_law_pick" 1 ["_law_purse_here", "_law_count"] sp_pick) (W2 : Kn P w K mg base "_law_gaps" 1 ["_law_wood_here"] sp_lgaps) (W3 : Kn P w K mg base "_law_limb_by" 2 ["_law_rows", "_law_some"] sp_limb)
    (F : FnP K "_law_piece" s__law_piece f fd) (g : mg "_law_piece" = some (.ref f)) : Kn P w K mg base "_law_piece" 3 ["_law_purse_here", "_law_grove"] sp_piece := by
  refine kn_of F g (F.ok c__law_piece (fun vs H Q E h => ?_) (fun cdv A outer s H vs Q E hr h => ?_)) (fun _ _ _ _ _ _ us hl => match us, hl with | [_, _], _ => rfl)
  · obtain ⟨l, v, ts, rfl, _⟩ := h
    rfl
  · obtain ⟨l, v, ts, rfl, hp, ⟨ga, gxs, rfl, hga, pdg⟩, ok, h4, q⟩ := h
    have nd := c__law_piece.nd
    refine ⟨_, PSs.nox (pss_cons (ps_set (i := 2) nd rfl (.inl rfl) (pe_lst pa_nil))
      (pss_cons (ps_forG (g := gName 3) PassesOwn.never (pi_tup (pv 1)) (pg_name (i := 3) nd rfl (.inr rfl) (.inl rfl))
        (pss_cons (ps_lcm (i := 4) (own := [("_law_k", 5)]) (g := gName 5) (te := tCall sp_pick [] E0 (tCons (tVar 0) (tCons (tOp (rI0 fun i j => .int (i + j)) (tCB (aLen K) (tCons (tVar 3) tNil)) (tC (.int 1))) tNil))) nd rfl rfl (sw_true rfl rfl rfl (by decide +kernel))
            (pi_range1 (by rfl) T.range (pa_cons (pe_op op_add pe_int (pe_kn W1 hr (pa_cons (pv 0) (pa_cons pe_int pa_nil)))) pa_nil))
            (blkOk_by (N := ["_law_purse_here", "_law_grove", "_law_found", "_law_wood_here", "_law_some", "_law_k"]) (sc := defScope s__law_piece) (by decide +kernel)) (fun _ _ _ _ _ => pg_name (i := 5) nd rfl (.inl rfl) (.inr rfl))
            (fun _ _ _ _ _ => pe_kn W1 hr (pa_cons (pv 0) (pa_cons (pe_op op_add (pe_len T (pv 3)) pe_int) pa_nil))))
        (pss_one (ps_expr (pe_bm PySem.F.plainAttrs_list PySem.F.slot_list_append PySem.F.type_list_append mt_append (pv 2)
          (pa_cons (pe_kn W3 hr (pa_cons (pe_kn W2 hr (pa_cons (pv 3) pa_nil)) (pa_cons (pv 4) pa_nil))) pa_nil))))))
      (pss_one (ps_ret (pe_tuple T (pv 2)))))), ?_⟩
    refine ⟨by show 0 ≤ sizeLine; exact Nat.zero_le _, fun f0 hf0 => ?_⟩
    have e1 : upd H f0 (.lst []) f0 = some (.lst []) := upd_same
    have s1 : Same H (upd H f0 (.lst [])) := sm_new hf0
    have p1 : Pw l H (upd H f0 (.lst [])) := Pw.same hp s1
    have hga1 := s1 _ _ hga
    refine ⟨.ref ga, rfl, ga, rfl, ⟨_, SqT.of hga1⟩, ?_⟩
    have ktb : ∀ H', Pw l H H' → Kt (upd H f0 (.lst [])) H' := fun H' p' => kt_unl (p'.kt hp)
    refine for_tup stb_nats hga1 (stb_pairs stb_nats (kt s1) pdg)
      (fun i σ H' => Pw l H H' ∧ ∃ x3 x4 x5, σ = [some (.ref l), some (.ref ga), some (.ref f0), x3, x4, x5] ∧ ∃ xs P, H' f0 = some (.lst xs) ∧ Paired (NatsT H') xs P ∧ Pok (ts.take i) P)
      ⟨p1, _, _, _, rfl, [], [], e1, .nil, trivial⟩ (fun i σ H' h => ktb _ h.1) ?_ ?_
    · rintro i t vt σ H2 ht ⟨p2, x3, x4, x5, rfl, xs, Pt, e2, pd2, ok2⟩ rt
      have okt := ok t (List.mem_of_getElem? ht)
      have h11 : t.length ≤ 11 := by have := okt.1; omega
      have hi : i < ts.length := (List.getElem?_eq_some_iff.mp ht).1
      refine ⟨.ref l, rfl, l, 3, rfl, by omega, by omega, p2.pur, fun c H3 p3 hc => ?_⟩
      refine ⟨1, (c : Int), rfl, rfl, (1 + (c : Int)), rfl, by omega, by omega, ?_⟩
      have er : (1 + (c : Int)).toNat = c + 1 := by omega
      rw [er]
      have p23 := p2.trans p3
      refine lc_mapX walk_range (List.range (c + 1)) List.length_range.symm (by rw [List.length_range]; omega) stb_nat (fun _ b => b ≤ t.length) p3.pur (fun _ _ => trivial) ?_ ?_
      · rintro D k a x H4 H4' Kn hD hDl ha p4 ⟨rfl, rfl⟩ kn
        have rt4 := stb_nats _ _ _ _ ((p3.trans p4).kt p2.pur) rt
        obtain ⟨ta, txs, rfl, hta, pdt⟩ := rt4
        refine ⟨rfl, .ref l, rfl, .ref ta, rfl, ?_⟩
        refine len_tup hta (pd_len pdt) ⟨_, _, rfl, rfl, ?_⟩
        exact ⟨l, t.length + 1, rfl, by omega, by omega, p4.pur, fun r H5 p5 hr5 => kn _ r H5 p5 rfl (by omega)⟩
      · intro D ys bs H4 hD p4 hDl e4 pd4 rel4
        have hbl : bs.length = c + 1 := by rw [← pd_len rel4, List.length_range]
        obtain ⟨x, r, rfl⟩ := List.exists_cons_of_length_eq_add_one hbl
        have hrl : r.length = c := by simpa using hbl
        have hb : ∀ y ∈ x :: r, y ≤ t.length := fun y hy => by
          obtain ⟨k, hk⟩ := List.mem_iff_getElem?.mp hy
          obtain ⟨z, _, hz⟩ := pd_getr rel4 hk
          exact hz
        have p34 := p3.trans p4
        have rt4 := stb_nats _ _ _ _ (p34.kt p2.pur) rt
        have ef4 : H4 f0 = some (.lst xs) := p34.ex _ _ (fun e => by
          obtain ⟨x, y, z, h⟩ := hp
          rw [← e, hf0] at h; cases h) e2
        refine ⟨.ref f0, rfl, .inl ⟨rfl, _, SqL.of ef4⟩, vt, rfl, vt, t, rfl, rt4, okt, fun m H5 s5 hm => ?_⟩
        refine ⟨.ref D, rfl, m, .ref D, t, x, r, rfl, hm, h11, ⟨D, ys, rfl, s5 _ _ e4, stb_pairs stb_nat (kt s5) pd4⟩, by omega, hb, fun u H6 b s6 hu hh => ?_⟩
        have s56 := s5.trans s6
        have ef6 := s56 _ _ ef4
        have hxl : xs.length = i := by rw [pd_len pd2, pok_len ok2, List.length_take]; omega
        have k7 : Kt H6 (upd H6 f0 (.lst (xs ++ [u]))) := kt_lst ef6
        have k27 : Kt H2 (upd H6 f0 (.lst (xs ++ [u]))) := ((p34.kt p2.pur).trans (kt s56)).trans k7
        refine ⟨f0, xs, u, rfl, rfl, ef6, Nat.lt_of_le_of_lt (show xs.length ≤ 4 by omega) (by decide), ?_⟩
        refine ⟨pw_mut ((p2.trans p34).trans (Pw.same p4.pur s56)) hp hf0, _, _, _, rfl, xs ++ [u], Pt ++ [b], upd_same, pd_app (stb_pairs stb_nats k27 pd2) (.cons (stb_nats _ _ _ _ k7 hu) .nil), ?_⟩
        rw [take_snoc ht]
        exact pok_snoc ok2 hh
    · rintro σ H2 ⟨p2, x3, x4, x5, rfl, xs, Pt, e2, pd2, ok2⟩
      rw [List.take_length] at ok2
      refine ⟨.ref f0, rfl, ?_⟩
      refine tuple_lst e2 fun u hu => ?_
      have s3 := sm_new (H := H2) (o := .tup xs) hu
      exact q _ Pt _ (p2.trans (Pw.same p2.pur s3)) ⟨u, xs, rfl, upd_same, stb_pairs stb_nats (kt s3) pd2⟩ ok2
def sp_point : Sp := fun vs H Q _ => ∃ l v ts, vs = [.ref l, v] ∧ PurH l H ∧ TupOf NatsT H v ts ∧ (∀ t ∈ ts, TreeOk t) ∧ ts.length ≤ 4 ∧ ∀ u s H', Pw l H H' → NatsT H' u s → Sok ts s → Q u H'
theorem sok_of : ∀ {ts : Trs} {s : List Nat}, Paired (fun (t : List Nat) (x : Nat) => x ≤ t.length) ts s → Sok ts s
  | [], [], _ => trivial
  | _ :: _, _ :: _, .cons h r => ⟨h, sok_of r⟩
theorem k_point (T : Tx mg) (W1 : Kn P w K mg base "_law_pick" 1 ["_law_purse_here", "_law_count"] sp_pick)
    (F : FnP K "_law_point" s__law_point f fd) (g : mg "_law_point" = some (.ref f)) : Kn P w K mg base "_law_point" 2 ["_law_purse_here", "_law_grove"] sp_point := by
  refine kn_of F g (F.ok c__law_point (fun vs H Q E h => ?_) (fun cdv A outer s H vs Q E hr h => ?_)) (fun _ _ _ _ _ _ us hl => match us, hl with | [_, _], _ => rfl)
  · obtain ⟨l, v, ts, rfl, _⟩ := h
    rfl
  · obtain ⟨l, v, ts, rfl, hp, ⟨ga, gxs, rfl, hga, pdg⟩, ok, h4, q⟩ := h
    have nd := c__law_point.nd
    refine ⟨_, PSs.nox (pss_one (ps_ret (pe_tuple T (pe_lcm (own := [("_law_wood_here", 2)]) (g := gName 2) (te := tCall sp_pick [] E0 (tCons (tVar 0) (tCons (tOp (rI0 fun i j => .int (i + j)) (tCB (aLen K) (tCons (tVar 2) tNil)) (tC (.int 1))) tNil))) nd (pi_tup (pv 1))
            (blkOk_by (N := ["_law_purse_here", "_law_grove", "_law_wood_here"]) (sc := defScope s__law_point) (by decide +kernel)) (fun _ _ _ _ _ => pg_name (i := 2) nd rfl (.inl rfl) (.inr rfl))
            (fun _ _ _ _ _ => pe_kn W1 hr (pa_cons (pv 0) (pa_cons (pe_op op_add (pe_len T (pv 2)) pe_int) pa_nil))))))), ?_⟩
    refine ⟨.ref ga, rfl, ga, rfl, ⟨_, SqT.of hga⟩, ?_⟩
    refine lc_mapX walk_tup ts (pd_len pdg) (by omega) stb_nat (fun t b => b ≤ t.length) hp (fun H' p' => SqT.of (p'.kt hp _ _ hga)) ?_ ?_
    · rintro D k t vt H4 H4' Kn hD hDl ha p4 ⟨rfl, hvt⟩ kn
      obtain ⟨t', ht', rt⟩ := pd_get pdg hvt
      rw [ha] at ht'
      cases ht'
      have okt := ok t (List.mem_of_getElem? ha)
      have h11 : t.length ≤ 11 := by have := okt.1; omega
      obtain ⟨ta, txs, rfl, hta, pdt⟩ := stb_nats _ _ _ _ (p4.kt hp) rt
      refine ⟨rfl, .ref l, rfl, .ref ta, rfl, ?_⟩
      refine len_tup hta (pd_len pdt) ⟨_, _, rfl, rfl, ?_⟩
      exact ⟨l, t.length + 1, rfl, by omega, by omega, p4.pur, fun r H5 p5 hr5 => kn _ r H5 p5 rfl (by omega)⟩
    · intro D ys bs H4 hD p4 hDl e4 pd4 rel4
      refine tuple_lst e4 fun u hu => ?_
      have s5 := sm_new (H := H4) (o := .tup ys) hu
      exact q _ bs _ (p4.trans (Pw.same p4.pur s5)) ⟨u, ys, rfl, upd_same, stb_pairs stb_nat (kt s5) pd4⟩ (sok_of rel4)
end
end Jr
set_option Elab.async false
set_option linter.all false
set_option maxRecDepth 100000
set_option maxHeartbeats 4000000
/-! sum(a list of lists, a list). -/
namespace Jr
open PySem PySem.Spec PyProof.Rows L2
theorem args_sum2 (a b : Value) : argsOk "sum" ⟨[a, b], []⟩ := by unfold argsOk; kernel_rfl
section
variable {prog : Program} {w : World} {A : Around} {R : Result → Shared → Prop}
theorem sum_lists_loop (hh : A.handled = none) {I ax S N : Addr} (hI : ax ≠ I) (hSI : S ≠ I) (hSax : S ≠ ax) (hNS : N ≤ S) {ads : List (Addr × List Value)} (hads : ∀ p ∈ ads, p.1 ≠ I ∧ p.1 ≠ S) :
    ∀ (k i : Nat) (s : Shared) (T : Addr) (acc : List Value) (c m : Nat), ads.length - i = k → i ≤ ads.length → s.heap.IsListIter I ax i → s.heap.IsList ax (ads.map fun p => Value.ref p.1).toArray →
    s.heap.get? S = some { cls := .type "list", dict := none, data := .seq #[.ref T] c, slots := #[] } → T ≠ I → T ≠ S → IsL s.heap T acc.toArray m → (k = 0 → N ≤ T) → (∀ p ∈ ads, ∃ n, IsL s.heap p.1 p.2.toArray n) →
    acc.length + ((ads.drop i).flatMap (·.2)).length ≤ sizeLine →
    (∀ h' tk T', (∀ b o, b ≠ I → b ≠ S → s.heap.get? b = some o → h'.get? b = some o) → N ≤ T' → (∃ n, IsL h' T' (acc ++ (ads.drop i).flatMap (·.2)).toArray n) → R (.ok (.ret (.ref T'))) { s with heap := h', toks := tk }) →
    codeAny (model prog w) A (.builtin "sum.loop" ⟨[.ref I, .ref S, rawInt 2, rawInt 0], []⟩) R s := by
  intro k
  have W := Walks.list (prog := prog) (w := w) (A := A.in1) hh I ax hI (ads.map fun p => Value.ref p.1).toArray
  have hsz : (ads.map fun p => Value.ref p.1).toArray.size = ads.length := by simp
  induction k with
  | zero =>
    intro i s T acc c m hk hi hit hax hS hTI hTS hT hN hl hz hR
    have hin : i = ads.length := by omega
    subst hin
    refine codeAny_builtin F.entry_sum_loop ?_
    rw [Around.under_plainId F.plain_sum_loop _]
    show wpAny _ A.in1 (seqItems? (.ref S) >>= _) _ _ s
    refine wpAny_bind (wpAny_seqItems hS rfl ?_)
    show wpAny _ A.in1 (tryCatch (pyNext (.ref I)) _ >>= _) _ _ s
    refine wpAny_bind (wpAny_tryCatch (W.done s _ _ (by rw [hsz]; exact ⟨hit, hax⟩) fun h' tk hk' => ?_))
    refine wpAny_pure (hR h' tk T (fun b o hbI _ e => hk' b o (by simp [hbI]) e) (hN rfl) ⟨m, ?_⟩)
    rw [List.drop_length, List.flatMap_nil, List.append_nil]
    exact hk' T _ (by simp [hTI]) hT
  | succ k ih =>
    intro i s T acc c m hk hi hit hax hS hTI hTS hT hN hl hz hR
    have hlt : i < ads.length := by omega
    obtain ⟨p, hp⟩ := get_lt hlt
    have hpm := List.mem_of_getElem? hp
    have edrop : ads.drop i = p :: ads.drop (i + 1) := by
      rw [List.drop_eq_getElem_cons hlt]
      congr 1
      exact (List.getElem?_eq_some_iff.mp hp).2
    refine codeAny_builtin F.entry_sum_loop ?_
    rw [Around.under_plainId F.plain_sum_loop _]
    show wpAny _ A.in1 (seqItems? (.ref S) >>= _) _ _ s
    refine wpAny_bind (wpAny_seqItems hS rfl ?_)
    show wpAny _ A.in1 (tryCatch (pyNext (.ref I)) _ >>= _) _ _ s
    refine wpAny_bind (wpAny_tryCatch (W.item i s _ _ (by rw [hsz]; exact hlt) ⟨hit, hax⟩ fun v h' tk hP hst' hk' => ?_))
    have hv : v = .ref p.1 := by
      rw [List.getElem?_toArray, List.getElem?_map, hp] at hP
      simpa using hP.symm
    subst hv
    have hS' := hk' S _ (by simp [hSI]) hS
    have hT' : IsL h' T acc.toArray m := hk' T _ (by simp [hTI]) hT
    obtain ⟨n, hpl⟩ := hl p hpm
    have hpl' : IsL h' p.1 p.2.toArray n := hk' p.1 _ (by simp [(hads p hpm).1]) hpl
    rw [edrop, List.flatMap_cons, List.length_append] at hz
    show wpAny _ A.in1 ((holding [Value.ref p.1] (binaryOp .Add (.ref T) (.ref p.1))).attempt >>= _) _ _ _
    refine wpAny_bind (wpAny_attempt (wpAny_holding (PySem.P.add_list hT' hpl' ?_ (by rw [List.size_toArray, List.size_toArray]; omega))))
    have ea : acc.toArray ++ p.2.toArray = (acc ++ p.2).toArray := by simp
    rw [ea]
    have hSp : (h'.push { cls := .type "list", data := .seq (acc ++ p.2).toArray }).get? S = some { cls := .type "list", dict := none, data := .seq #[.ref T] c, slots := #[] } := Heap.get?_push_of_some _ hS'
    have hTn : IsL (h'.push { cls := .type "list", data := .seq (acc ++ p.2).toArray }) h'.objs.size (acc ++ p.2).toArray 0 := Heap.get?_push_size _ rfl
    have hkp : ∀ b o, h'.get? b = some o → (h'.push { cls := .type "list", data := .seq (acc ++ p.2).toArray }).get? b = some o := fun b o e => Heap.get?_push_of_some _ e
    have hSlt : S < h'.objs.size := Heap.lt_size hS'
    have hIlt : I < h'.objs.size := by obtain ⟨o, e, _⟩ := hst'.1; exact Heap.lt_size e
    show wpAny _ A.in1 (updateSeq S (fun _ => #[.ref h'.objs.size]) >>= _) _ _ _
    generalize hH : h'.push { cls := .type "list", data := .seq (acc ++ p.2).toArray } = h2 at hSp hTn hkp
    refine wpAny_bind (wpAny_updateSeq hSp rfl ?_)
    have hS2 := Heap.get?_update_self (Obj.mapSeq fun _ => #[Value.ref h'.objs.size]) hSp rfl
    refine wpAny_bind (wpAny_letGo ?_)
    have ko1 : ∀ b o, b ≠ S → h2.get? b = some o → (h2.update S (Obj.mapSeq fun _ => #[Value.ref h'.objs.size])).get? b = some o := fun b o hb e => (Heap.get?_update_other _ _ (Ne.symm hb)).trans e
    show wpAny _ A.in1 (updateSeq S (fun _ => #[.ref h'.objs.size]) >>= _) _ _ _
    generalize hH3 : h2.update S (Obj.mapSeq fun _ => #[Value.ref h'.objs.size]) = h3 at hS2 ko1
    refine wpAny_bind (wpAny_updateSeq hS2 rfl ?_)
    have hS3 := Heap.get?_update_self (Obj.mapSeq fun _ => #[Value.ref h'.objs.size]) hS2 rfl
    have ko2 : ∀ b o, b ≠ S → h3.get? b = some o → (h3.update S (Obj.mapSeq fun _ => #[Value.ref h'.objs.size])).get? b = some o := fun b o hb e => (Heap.get?_update_other _ _ (Ne.symm hb)).trans e
    generalize hH4 : h3.update S (Obj.mapSeq fun _ => #[Value.ref h'.objs.size]) = h4 at hS3 ko2
    have ko : ∀ b o, b ≠ S → h'.get? b = some o → h4.get? b = some o := fun b o hb e => ko2 b o hb (ko1 b o hb (hkp b o e))
    have koA : ∀ b o, b ≠ I → b ≠ S → s.heap.get? b = some o → h4.get? b = some o := fun b o hbI hbS e => ko b o hbS (hk' b o (by simp [hbI]) e)
    have hTnS : h'.objs.size ≠ S := Nat.ne_of_gt hSlt
    refine wpAny_pure ⟨plainId_quiet F.plain_sum_loop _, ih (i + 1) _ h'.objs.size (acc ++ p.2) _ 0 (by omega) hlt ?_ ?_ hS3 (Nat.ne_of_gt hIlt) hTnS ?_ (fun _ => Nat.le_of_lt (Nat.lt_of_le_of_lt hNS hSlt)) (fun p' hp' => ?_) ?_ fun h'' tk'' T' kk hN' hT'' => ?_⟩
    · exact hst'.1.at fun o e => ko I o (Ne.symm hSI) e
    · exact hst'.2.at fun o e => ko ax o (Ne.symm hSax) e
    · exact ko2 _ _ hTnS (ko1 _ _ hTnS hTn)
    · obtain ⟨n', e⟩ := hl p' hp'
      exact ⟨n', koA _ _ (hads p' hp').1 (hads p' hp').2 e⟩
    · rw [List.length_append]; omega
    · refine hR h'' tk'' T' (fun b o hbI hbS e => kk b o hbI hbS (koA b o hbI hbS e)) hN' ?_
      rw [edrop, List.flatMap_cons, ← List.append_assoc]
      exact hT''
end
section
variable {prog : Program} {w : World} {A : Around} {E : Value → Shared → Prop} {s : Shared}
theorem call_sum_lists (hh : A.handled = none) {ax b : Addr} {ads : List (Addr × List Value)} {acc : List Value} {m : Nat} {Q : Value → Shared → Prop} (hne : ads ≠ []) (hax : s.heap.IsList ax (ads.map fun p => Value.ref p.1).toArray)
    (hb : IsL s.heap b acc.toArray m) (hl : ∀ p ∈ ads, ∃ n, IsL s.heap p.1 p.2.toArray n) (hz : acc.length + (ads.flatMap (·.2)).length ≤ sizeLine)
    (h : ∀ h' tk T', (∀ b o, s.heap.get? b = some o → h'.get? b = some o) → s.heap.objs.size ≤ T' → (∃ n, IsL h' T' (acc ++ ads.flatMap (·.2)).toArray n) → Q (.ref T') { s with heap := h', toks := tk }) :
    wpAny (model prog w) A (call (.builtin "sum") [.ref ax, .ref b]) Q E s := by
  refine call_function_tree F.kind_sum F.plain_sum F.entry_sum (args_sum2 _ _) ?_
  unfold Builtin.«sum»
  simp only [List.length_cons, List.length_nil]
  rw [if_neg (by decide)]
  refine wpAny_bind (wpAny_of_eq (show Builtin.Builtins.bindParams "sum" ["start"] 0 ⟨[.ref b], []⟩ = pure [some (.ref b)] from rfl) ?_)
  have hltx : ax < s.heap.objs.size := by obtain ⟨_, e, _⟩ := hax; exact Heap.lt_size e
  have hltb : b < s.heap.objs.size := Heap.lt_size hb
  refine wpAny_bind (wpAny_pyIter_list hax ?_)
  refine wpAny_bind (wpAny_pure ?_)
  have hT : ∀ h : Heap, IsL h b acc.toArray m → ∀ s' : Shared, s'.heap = h → s'.TypeIs (.ref b) "list" := fun h e s' q => ⟨_, by rw [q]; exact e, rfl⟩
  have hb1 : IsL (s.heap.push { cls := .type "list_iterator", data := .fields #[.ref ax, .int 0 0] }) b acc.toArray m := Heap.get?_push_of_some _ hb
  simp only [List.forIn_cons, List.forIn_nil]
  refine wpAny_bind (wpAny_bind (wpAny_bind (wpAny_isInstance (T := "list") (b := false) (hT _ hb1 _ rfl) F.sub_list_str ?_)))
  simp only [Bool.false_eq_true, if_false]
  refine wpAny_pure (wpAny_bind (wpAny_bind (wpAny_isInstance (T := "list") (b := false) (hT _ hb1 _ rfl) F.sub_list_bytes ?_)))
  simp only [Bool.false_eq_true, if_false]
  refine wpAny_pure (wpAny_bind (wpAny_bind (wpAny_isInstance (T := "list") (b := false) (hT _ hb1 _ rfl) F.sub_list_bytearray ?_)))
  simp only [Bool.false_eq_true, if_false]
  refine wpAny_pure (wpAny_pure ?_)
  refine wpAny_bind (wpAny_newObj_type ?_)
  have hkp : ∀ c o, s.heap.get? c = some o → (s.heap.push { cls := .type "list_iterator", data := .fields #[.ref ax, .int 0 0] }).get? c = some o := fun c o e => Heap.get?_push_of_some _ e
  have hit : (s.heap.push { cls := .type "list_iterator", data := .fields #[.ref ax, .int 0 0] }).IsListIter s.heap.objs.size ax 0 := ⟨_, Heap.get?_push_size _ rfl, rfl, rfl⟩
  have hsz : (s.heap.push { cls := .type "list_iterator", data := .fields #[.ref ax, .int 0 0] }).objs.size = s.heap.objs.size + 1 := Heap.size_push _ _
  generalize hH : s.heap.push { cls := .type "list_iterator", data := .fields #[.ref ax, .int 0 0] } = h1 at hb1 hkp hit hsz
  have hlt1 : s.heap.objs.size < h1.objs.size := by rw [hsz]; exact Nat.lt_succ_self _
  have hk2 : ∀ c o, h1.get? c = some o → (h1.push { cls := .type "list", dict := none, data := .seq #[.ref b] 0, slots := #[] }).get? c = some o := fun c o e => Heap.get?_push_of_some _ e
  have hS : (h1.push { cls := .type "list", dict := none, data := .seq #[.ref b] 0, slots := #[] }).get? h1.objs.size = some { cls := .type "list", dict := none, data := .seq #[.ref b] 0, slots := #[] } := Heap.get?_push_size _ rfl
  refine wpAny_pure ⟨plainId_quiet F.plain_sum_loop _, sum_lists_loop hh (I := s.heap.objs.size) (ax := ax) (S := h1.objs.size) (N := s.heap.objs.size) (Nat.ne_of_lt hltx) (Nat.ne_of_gt hlt1) (Nat.ne_of_gt (Nat.lt_trans hltx hlt1)) (Nat.le_of_lt hlt1) (ads := ads) (fun p hp => ?_) ads.length 0 _ b acc 0 m (Nat.sub_zero _) (Nat.zero_le _) ?_ ?_ hS (Nat.ne_of_lt hltb) (Nat.ne_of_lt (Nat.lt_trans hltb hlt1)) (hk2 _ _ hb1) (fun h0 => ?_) (fun p hp => ?_) hz fun h' tk T' hk hN hT' => h h' tk T' (fun c o e => ?_) hN hT'⟩
  · obtain ⟨n, e⟩ := hl p hp
    have hlp := Heap.lt_size e
    exact ⟨Nat.ne_of_lt hlp, Nat.ne_of_lt (Nat.lt_trans hlp hlt1)⟩
  · exact hit.at fun o e => hk2 _ _ e
  · exact hax.at fun o e => hk2 _ _ (hkp _ _ e)
  · exact absurd (List.length_eq_zero_iff.mp h0) hne
  · obtain ⟨n, e⟩ := hl p hp
    exact ⟨n, hk2 _ _ (hkp _ _ e)⟩
  · have hlc := Heap.lt_size e
    exact hk c o (Nat.ne_of_lt hlc) (Nat.ne_of_lt (Nat.lt_trans hlc hlt1)) (hk2 _ _ (hkp _ _ e))
end
/-- sum(a list of lists, a list) -/
structure aSumL (xs : List V) (H : Hp) (Q : VK) : Prop where
  ex : ∃ (a b : Addr) (ls : List (Addr × List V)) (acc : List V), xs = [.ref a, .ref b] ∧ H a = some (.lst (ls.map fun p => V.ref p.1)) ∧ H b = some (.lst acc) ∧ (∀ p ∈ ls, H p.1 = some (.lst p.2)) ∧ ls ≠ [] ∧ acc.length + (ls.flatMap (·.2)).length ≤ sizeLine ∧
    ∀ T, H T = none → Q (.ref T) (upd H T (.lst (acc ++ ls.flatMap (·.2))))
theorem ads_of {X : Cx} {pins : List (Addr × Obj)} {σ : L2.St} {H : Hp} {s : Shared} (I : Inv X pins σ H s) : ∀ (ls : List (Addr × List V)), (∀ p ∈ ls, H p.1 = some (.lst p.2)) →
    ∃ ads : List (Addr × List Value), Vals (ls.map fun p => V.ref p.1) (ads.map fun p => Value.ref p.1) ∧ (∀ p ∈ ads, ∃ n, IsL s.heap p.1 p.2.toArray n) ∧ Vals (ls.flatMap (·.2)) (ads.flatMap (·.2)) ∧ (ls ≠ [] → ads ≠ [])
  | [], _ => ⟨[], .nil, fun _ h => (nomatch h), .nil, fun h => absurd rfl h⟩
  | (a, ys) :: ls, h => by
    obtain ⟨ads, v1, i1, v2, _⟩ := ads_of I ls fun p hp => h p (List.mem_cons_of_mem _ hp)
    obtain ⟨z, its, n, r, hl, e⟩ := I.lstM (h (a, ys) List.mem_cons_self)
    refine ⟨(a, its) :: ads, .cons rfl v1, fun p hp => ?_, r.append v2, fun _ => List.cons_ne_nil _ _⟩
    rcases List.mem_cons.mp hp with rfl | hp
    · exact ⟨n, e⟩
    · exact i1 p hp
theorem refs_of : ∀ {as : List Addr} {us : List Value}, Vals (as.map V.ref) us → us = as.map Value.ref
  | [], _, .nil => rfl
  | _ :: _, _, .cons r rs => by cases r; rw [refs_of rs]; rfl
theorem cr_sumL {X : Cx} (hc : X.calm = true) : CallR X (.builtin "sum") aSumL := by
  intro pins s σ H vs us Q I r h
  obtain ⟨a, b, ls, acc, e1, ha, hb, hl, hne, hz, q⟩ := h.ex
  subst e1
  have hd := I.ok.hd hc
  obtain ⟨ads, v1, i1, v2, hn⟩ := ads_of I ls hl
  obtain ⟨z, its, n, rv, hlen, e⟩ := I.lstM ha
  obtain ⟨z2, its2, n2, rv2, hlen2, e2⟩ := I.lstM hb
  have hits : its = ads.map fun p => Value.ref p.1 := by
    have h1 : ls.map (fun p => V.ref p.1) = (ls.map (·.1)).map V.ref := by rw [List.map_map]; rfl
    rw [h1] at rv v1
    rw [refs_of rv, refs_of v1]
  subst hits
  obtain ⟨u1, u2, rfl, r1, r2⟩ := Vals.two r
  cases r1
  cases r2
  refine call_sum_lists hd (hn hne) ⟨_, e, rfl, n, rfl⟩ e2 i1 (by rw [← hlen2, ← v2.length]; exact hz) fun h' tk T' hk hT ⟨n', eT⟩ => ?_
  exact ⟨.ref _, upd H T' (.lst (acc ++ ls.flatMap (·.2))), I.laid (t' := tk) hk hT ⟨by rw [List.length_append]; exact hz, _, n', rv2.append v2, eT⟩, rfl, q _ (I.hok.fresh hT)⟩
theorem pe_sumL {X : Cx} {e1 e2 : Expr} {t1 t2 : TE} {p1 pos : Pos} (T : Tx X.mg) (hc : X.calm = true) (h1 : PE X e1 t1) (h2 : PE X e2 t2) (hg : Gl X "sum" := by rfl) (hs : starEach [e1, e2] X.env = (false, eval e1 X.env) :: starEach [e2] X.env := by rfl) (hs2 : starEach [e2] X.env = (false, eval e2 X.env) :: starEach [] X.env := by rfl) :
    PE X (.Call (.Name "sum" p1) [e1, e2] [] pos) (tCB aSumL (tCons t1 (tCons t2 tNil))) :=
  pe_callB (cr_sumL hc) hg T.sum PyProof.Rows.boot_sum (pa_cons h1 (pa_cons h2 pa_nil hs2) hs) (by decide) (by decide) hs (by rw [hs2]; rfl)
end Jr
set_option Elab.async false
set_option linter.all false
set_option maxRecDepth 100000
set_option maxHeartbeats 4000000
/-! The law's own defs: all points. -/
namespace Jr
open PySem PySem.Spec PyProof.Rows L2
/-- a list, not the one at D -/
def LstD {α : Type} (R : Rp α) : Addr → Rp (List α) := fun D H v as => ∃ a xs, v = .ref a ∧ a ≠ D ∧ H a = some (.lst xs) ∧ Paired (R H) xs as
theorem std_lstD {α : Type} {R : Rp α} (h : Stb R) : StD (LstD R) := fun D H H' v as u ⟨a, xs, e, ne, ha, p⟩ => ⟨a, xs, e, ne, u.2 a _ ne ha, stb_pairs h u.kt p⟩
theorem lists_of {α : Type} {R : Rp α} {D : Addr} {H : Hp} : ∀ {ys : List V} {as : List (List α)}, Paired (LstD R D H) ys as → ∃ ls : List (Addr × List V), ys = ls.map (fun p => V.ref p.1) ∧ (∀ p ∈ ls, H p.1 = some (.lst p.2)) ∧ Paired (R H) (ls.flatMap (·.2)) as.flatten
  | [], [], .nil => ⟨[], rfl, fun _ h => (nomatch h), .nil⟩
  | _ :: _, _ :: _, .cons ⟨a, xs, e, _, ha, p⟩ r => by
    obtain ⟨ls, e1, i1, p1⟩ := lists_of r
    refine ⟨(a, xs) :: ls, by rw [e, e1]; rfl, fun p hp => ?_, pd_app p p1⟩
    rcases List.mem_cons.mp hp with rfl | hp
    · exact ha
    · exact i1 p hp
section
variable {P : Program} {w : World} {K : PySem.W.Frag} {mg : Str → Option Value} {base : Heap} {f : Addr} {fd : FuncData} {C : Addr}
def sp_points : Sp := fun vs H Q _ => ∃ v ts, vs = [v] ∧ TupOf NatsT H v ts ∧ (∀ t ∈ ts, TreeOk t) ∧ ts.length ≤ 4 ∧ prod ts ≤ 400 ∧ ∀ u H', Same H H' → LstOf NatsT H' u (allSp [[]] ts) → Q u H'
theorem k_points (T : Tx mg) (F : FnP K "_law_all_points" s__law_all_points f fd) (g : mg "_law_all_points" = some (.ref f)) : Kn P w K mg base "_law_all_points" 1 ["_law_grove"] sp_points := by
  refine kn_of F g (F.ok c__law_all_points (fun vs H Q E h => ?_) (fun cdv A outer s H vs Q E hr h => ?_)) (fun _ _ _ _ _ _ us hl => match us, hl with | [_], _ => rfl)
  · obtain ⟨v, ts, rfl, _⟩ := h
    rfl
  · obtain ⟨v, ts, rfl, ⟨ga, gxs, rfl, hga, pdg⟩, ok, h4, hprod, q⟩ := h
    have nd := c__law_all_points.nd
    refine ⟨_, PSs.nox (pss_cons (ps_set (i := 1) nd rfl (.inl rfl) (pe_lst (pa_cons (pe_tup pa_nil) pa_nil)))
      (pss_cons (ps_forG (g := gName 2) PassesOwn.never (pi_tup (pv 0)) (pg_name (i := 2) nd rfl (.inr rfl) (.inl rfl))
        (pss_one (ps_set (i := 1) nd rfl (.inl rfl) (pe_sumL T rfl
          (pe_lcm (own := [("_law_row_here", 4)]) (g := gName 4) nd (pi_list (pv 1)) (blkOk_by (N := ["_law_grove", "_law_found", "_law_wood_here", "_law_stop", "_law_row_here"]) (sc := defScope s__law_all_points) (by decide +kernel)) (fun _ _ _ _ _ => pg_name (i := 4) nd rfl (.inr rfl) (.inl rfl))
            (te := tLm (iRng1 (tCons (tOp (rI0 fun i j => .int (i + j)) (tCB (aLen K) (tCons (tVar 2) tNil)) (tC (.int 1))) tNil)) (gName 3) (tOp (rCatA K) (tVar 4) (tTup (tCons (tVar 3) tNil))) [3])
            (fun _ _ _ _ _ => pe_lcm (own := [("_law_stop", 3)]) (g := gName 3) nd (pi_range1 (by rfl) T.range (pa_cons (pe_op op_add (pe_len T (pv 2)) pe_int) pa_nil)) (blkOk_by (N := ["_law_grove", "_law_found", "_law_wood_here", "_law_stop", "_law_row_here"]) (sc := relS _ (defScope s__law_all_points)) (by decide +kernel)) (fun _ _ _ _ _ => pg_name (i := 3) nd rfl (.inl rfl) (.inr rfl))
              (fun _ _ _ _ _ => pe_op op_catA (pv 4) (pe_tup (pa_cons (pv 3) pa_nil)))))
          (pe_lst pa_nil)))))
      (pss_one (ps_ret (pv 1))))), ?_⟩
    refine ⟨by show 0 ≤ sizeLine; exact Nat.zero_le _, fun e0 he0 => ⟨by show 1 ≤ sizeLine; decide, fun rl hrl => ?_⟩⟩
    have s1 : Same H (upd H e0 (.tup [])) := sm_new he0
    have ee0 : upd H e0 (.tup []) e0 = some (.tup []) := upd_same
    generalize upd H e0 (.tup []) = H1 at s1 ee0 hrl
    have s2 : Same H1 (upd H1 rl (.lst [.ref e0])) := sm_new hrl
    have erl : upd H1 rl (.lst [.ref e0]) rl = some (.lst [.ref e0]) := upd_same
    generalize upd H1 rl (.lst [.ref e0]) = H2 at s2 erl
    have s12 := s1.trans s2
    have hga2 := s12 _ _ hga
    refine ⟨.ref ga, rfl, ga, rfl, ⟨_, SqT.of hga2⟩, ?_⟩
    refine for_tup stb_nats hga2 (stb_pairs stb_nats (kt s12) pdg) (fun i σ H' => Same H2 H' ∧ ∃ r z x3 x4, σ = [some (.ref ga), some (.ref r), z, x3, x4] ∧ LstOf NatsT H' (.ref r) (allSp [[]] (ts.take i)))
      ⟨Same.refl _, rl, _, _, _, rfl, ⟨rl, _, rfl, erl, .cons ⟨e0, [], rfl, s2 _ _ ee0, .nil⟩ .nil⟩⟩ (fun i σ H' h => kt h.1) ?_ ?_
    · rintro i tt vt σ H5 htt ⟨s5, r, z, x3, x4, rfl, ⟨r', rxs, e, hr', rpd⟩⟩ rt
      cases e
      have okt := ok tt (List.mem_of_getElem? htt)
      have h11 : tt.length ≤ 11 := by have := okt.1; omega
      have hlen5 : (allSp [[]] (ts.take i)).length ≤ 400 := by
        rw [allSp_len, List.length_singleton, Nat.one_mul]
        exact Nat.le_trans prod_take hprod
      have hpos5 : 0 < (allSp [[]] (ts.take i)).length := by
        rw [allSp_len, List.length_singleton, Nat.one_mul]
        exact prod_pos _
      have hlen6 : (allSp [[]] (ts.take (i + 1))).length ≤ 400 := by
        rw [allSp_len, List.length_singleton, Nat.one_mul]
        exact Nat.le_trans prod_take hprod
      rw [take_snoc htt, allSp_snoc] at hlen6
      refine ⟨.ref r, rfl, r, rfl, ⟨_, SqL.of hr'⟩, ?_⟩
      refine lc_lstP stb_nats (std_lstD stb_nats) hr' rpd (by omega) (fun row => (List.range (tt.length + 1)).map fun p => row ++ [p]) (fun D row vr H6 Kn hacc hrow s6 rr kn => ⟨rfl, ?_⟩) (fun D ys H6 hD s6 e6 p6 => ?_)
      · obtain ⟨ta, txs, rfl, hta, pdt⟩ := stb_nats _ _ _ _ (kt s6) rt
        refine ⟨.ref ta, rfl, ?_⟩
        refine len_tup hta (pd_len pdt) ⟨_, _, rfl, rfl, (tt.length + 1 : Nat), rfl, by omega, by omega, ?_⟩
        rw [Int.toNat_natCast]
        refine lc_map walk_range (List.range (tt.length + 1)) List.length_range.symm (by rw [List.length_range]; omega) (Stb.d stb_nats) (fun p => row ++ [p]) (fun _ _ => trivial) ?_ ?_
        · rintro D2 k p vp H7 H8 Kn2 hD2 hacc7 hp s7 ⟨rfl, rfl⟩ kn2
          have hk : k = p := by
            have hk1 := (List.getElem?_eq_some_iff.mp hp).1
            rw [List.length_range] at hk1
            rw [List.getElem?_range hk1] at hp
            simpa using hp
          subst hk
          refine ⟨rfl, ?_⟩
          obtain ⟨ra, raxs, rfl, hra, rapd⟩ := stb_nats _ _ _ _ (kt s7) rr
          have hrx := nvs_of rapd
          subst hrx
          refine ⟨.ref ra, rfl, _, rfl, by show 1 ≤ sizeLine; decide, fun pl hpl => ?_⟩
          have s9 : Same H8 (upd H8 pl (.tup [.int (0 + (k : Int))])) := sm_new hpl
          have epl : upd H8 pl (.tup [.int (0 + (k : Int))]) pl = some (.tup [.int (0 + (k : Int))]) := upd_same
          generalize upd H8 pl (.tup [.int (0 + (k : Int))]) = H9 at s9 epl
          rw [Int.zero_add] at epl
          have hsok := (allSp_sok (ts := ts.take i)).mp hrow
          have hrl : row.length ≤ 4 := by rw [hsok.len, List.length_take]; omega
          refine ⟨ra, pl, nvs row, [.int (k : Int)], rfl, rfl, SqT.of (s9 _ _ hra), SqT.of epl, ?_, fun hnil => ?_, fun _ hnil => ?_, fun _ _ q' hq' => ?_⟩
          · rw [nvs_len, sizeLine_eq]; simp; omega
          · have : row = [] := by
              cases row with
              | nil => rfl
              | cons _ _ => cases hnil
            subst this
            exact kn2 _ H9 s9 ⟨pl, _, rfl, epl, .cons rfl .nil⟩
          · cases hnil
          · exact kn2 _ _ (s9.trans (sm_new hq')) ⟨q', _, rfl, by rw [upd_same], by
              have : nvs row ++ [V.int (k : Int)] = nvs (row ++ [k]) := by rw [nvs_app]; rfl
              rw [this]; exact nvs_pd _⟩
        · intro D2 zs H7 hD2 s7 e7 p7
          refine kn _ H7 s7 ⟨D2, zs, rfl, fun e => ?_, e7, p7⟩
          obtain ⟨acc, hacc⟩ := hacc
          rw [e, hacc] at hD2
          cases hD2
      · obtain ⟨ls, rfl, hls, pls⟩ := lists_of p6
        refine ⟨by show 0 ≤ sizeLine; exact Nat.zero_le _, fun el hel => ?_⟩
        have s7 : Same H6 (upd H6 el (.lst [])) := sm_new hel
        have e7 : upd H6 el (.lst []) el = some (.lst []) := upd_same
        generalize upd H6 el (.lst []) = H7 at s7 e7
        have hflat : ((allSp [[]] (ts.take i)).map fun row => (List.range (tt.length + 1)).map fun p => row ++ [p]).flatten = allSp [[]] (ts.take (i + 1)) := by
          rw [take_snoc htt, allSp_snoc, List.flatMap_def]
        rw [hflat] at pls
        have hll := pd_len pls
        have hlen6' : (allSp [[]] (ts.take (i + 1))).length ≤ 400 := by rw [take_snoc htt, allSp_snoc]; exact hlen6
        refine ⟨⟨D, el, ls, [], rfl, s7 _ _ e6, e7, fun p hp => s7 _ _ (hls p hp), fun h => ?_, ?_, fun T hT => ?_⟩⟩
        · have h1 := pd_len p6
          rw [h, List.length_map] at h1
          simp at h1
          omega
        · exact Nat.le_trans (by rw [hll, List.length_nil]; omega) (show 400 ≤ sizeLine by decide)
        · rw [List.nil_append]
          have s8 : Same H7 (upd H7 T (.lst (ls.flatMap (·.2)))) := sm_new hT
          exact ⟨((s5.trans s6).trans s7).trans s8, T, _, _, _, rfl, T, _, rfl, upd_same, stb_pairs stb_nats (kt (s7.trans s8)) pls⟩
    · rintro σ H5 ⟨s5, r, z, x3, x4, rfl, hl⟩
      rw [List.take_length] at hl
      exact ⟨.ref r, rfl, q _ H5 (s12.trans s5) hl⟩
end
end Jr
set_option Elab.async false
set_option linter.all false
set_option maxRecDepth 100000
set_option maxHeartbeats 4000000
/-! The law's own defs: bring. -/
namespace Jr
open PySem PySem.Spec PyProof.Rows L2
abbrev LETTERS : Str := "cdefghijklmnopqrstuvwx"
def lets : List Str := LETTERS.cps.toList.map fun c => ⟨#[c]⟩
theorem lets_len : lets.length = 22 := by decide +kernel
theorem lets_nd : (("a" : Str) :: ("b" : Str) :: lets).Nodup := by decide +kernel
theorem lets_ok : ∀ z ∈ ("a" : Str) :: ("b" : Str) :: lets, NameOk z := by
  have h : ∀ z ∈ ("a" : Str) :: ("b" : Str) :: lets, 0 < z.length ∧ z.length ≤ 8 ∧ ∀ c ∈ z.cps.toList, c ∈ SIGNS.cps.toList := by decide +kernel
  intro z hz
  exact ⟨(h z hz).1, (h z hz).2.1, (h z hz).2.2⟩
def roll (pts : List (List Nat)) : List (Str × Prt) := (lets.zip pts).map fun p => (p.1, one p.2)
theorem roll_len {pts : List (List Nat)} (h : pts.length ≤ 22) : (roll pts).length = pts.length := by
  unfold roll
  rw [List.length_map, List.length_zip, lets_len]; omega
theorem roll_parts {pts : List (List Nat)} (h : pts.length ≤ 22) : (roll pts).map (·.2) = pts.map one := by
  unfold roll
  rw [List.map_map]
  have e : (fun x : Str × Prt => x.2) ∘ (fun p : Str × List Nat => (p.1, one p.2)) = one ∘ (fun p : Str × List Nat => p.2) := rfl
  rw [e, ← List.map_map]
  congr 1
  exact List.map_snd_zip (by rw [lets_len]; exact h)
theorem roll_names {pts : List (List Nat)} : ((roll pts).map (·.1)).Sublist lets := by
  unfold roll
  rw [List.map_map]
  have e : (fun x : Str × Prt => x.1) ∘ (fun p : Str × List Nat => (p.1, one p.2)) = (fun p : Str × List Nat => p.1) := rfl
  rw [e]
  rcases Nat.le_total lets.length pts.length with h | h
  · rw [List.map_fst_zip h]
    exact List.Sublist.refl _
  · have : lets.zip pts = (lets.take pts.length).zip pts := by
      rw [List.zip_eq_zip_take_min, Nat.min_eq_right h, List.take_length]
    rw [this, List.map_fst_zip (by rw [List.length_take]; omega)]
    exact List.take_sublist _ _
theorem roll_ok {ts : Trs} {Pa Pb : Prt} {pts : List (List Nat)} (ha : Pok ts Pa) (hb : Pok ts Pb) (h : pts.length ≤ 22) (hs : ∀ s ∈ pts, Sok ts s) : BookOk ts (("a", Pa) :: ("b", Pb) :: roll pts) where
  few := by rw [List.length_cons, List.length_cons, roll_len h]; omega
  nms := fun r hr => lets_ok _ (by
    rcases List.mem_cons.mp hr with rfl | hr
    · exact List.mem_cons_self
    · rcases List.mem_cons.mp hr with rfl | hr
      · exact List.mem_cons_of_mem _ List.mem_cons_self
      · exact List.mem_cons_of_mem _ (List.mem_cons_of_mem _ (roll_names.subset (List.mem_map.mpr ⟨r, hr, rfl⟩))))
  pok := fun r hr => by
    rcases List.mem_cons.mp hr with rfl | hr
    · exact ha
    · rcases List.mem_cons.mp hr with rfl | hr
      · exact hb
      · have : r.2 ∈ (roll pts).map (·.2) := List.mem_map.mpr ⟨r, hr, rfl⟩
        rw [roll_parts h] at this
        obtain ⟨s, hs', e⟩ := List.mem_map.mp this
        rw [← e]; exact (hs s hs').pok
  nd := lets_nd.sublist (List.Sublist.cons₂ _ (List.Sublist.cons₂ _ roll_names))
section
variable {P : Program} {w : World} {K : PySem.W.Frag} {mg : Str → Option Value} {base : Heap} {f : Addr} {fd : FuncData} {C : Addr}
def SeqOf {α : Type} (R : Rp α) : Rp (List α) := fun H v as => TupOf R H v as ∨ LstOf R H v as
theorem SeqOf.same {α : Type} {R : Rp α} (h : Stb R) {H H' : Hp} {v : V} {as : List α} (s : Same H H') (r : SeqOf R H v as) : SeqOf R H' v as := r.elim (fun r => .inl (stb_tup h _ _ _ _ (kt s) r)) fun r => .inr (LstOf.same h s r)
theorem SeqOf.src {α : Type} {R : Rp α} {K : PySem.W.Frag} {H : Hp} {v : V} {as : List α} (r : SeqOf R H v as) : ∃ kd xs, Paired (R H) xs as ∧ ∀ H', Same H H' → SrcIs K H' kd v xs := by
  rcases r with ⟨a, xs, rfl, ha, p⟩ | ⟨a, xs, rfl, ha, p⟩
  · exact ⟨.t, xs, p, fun H' s => ⟨a, rfl, SqT.of (s _ _ ha)⟩⟩
  · exact ⟨.l, xs, p, fun H' s => ⟨a, rfl, SqL.of (s _ _ ha)⟩⟩
def sp_bring (C : Addr) : Sp := fun vs H Q _ => ∃ v a b u ts Pa Pb, ∃ pts : List (List Nat), ∃ R : Nat, vs = [v, a, b, u, .int (R : Int)] ∧ WorldR C H v ts ∧ PartT H a Pa ∧ PartT H b Pb ∧ Pok ts Pa ∧ Pok ts Pb ∧ SeqOf NatsT H u pts ∧ (∀ s ∈ pts, Sok ts s) ∧ pts.length ≤ 22 ∧ R ≤ 48 ∧
  ∀ t H' kin, Same H H' → Clo ts R (Pa :: Pb :: pts.map one) kin → (t = true ↔ ∃ M ∈ kin, Inn Pa M ∧ Inn Pb M) → Q (.bl t) H'
theorem k_bring (T : Tx mg) (W0 : Kn P w K mg base "as_part" 5 ["world", "spot"] (sp_as_part C)) (W1 : KnK P w K mg base "together" 8 ["world", "book", "one", "other", "reach"] (sp_together C))
    (F : FnP K "_law_bring" s__law_bring f fd) (g : mg "_law_bring" = some (.ref f)) : Kn P w K mg base "_law_bring" 9 ["_law_land", "_law_low", "_law_high", "_law_points", "_law_wide"] (sp_bring C) := by
  refine kn_of F g (F.ok c__law_bring (fun vs H Q E h => ?_) (fun cdv A outer s H vs Q E hr h => ?_)) (fun _ _ _ _ _ _ us hl => match us, hl with | [_, _, _, _, _], _ => rfl)
  · obtain ⟨v, a, b, u, ts, Pa, Pb, pts, R, rfl, _⟩ := h
    rfl
  · obtain ⟨v, a, b, u, ts, Pa, Pb, pts, R, rfl, hw, hpa, hpb, oka, okb, hu, hsok, h22, hR, q⟩ := h
    have nd := c__law_bring.nd
    refine ⟨_, PSs.nox (pss_cons (ps_set (i := 5) nd rfl (.inl rfl) pe_str)
      (pss_cons (ps_set (i := 6) nd rfl (.inl rfl) (pe_op op_catA (pe_tup (pa_cons (pe_tup (pa_cons pe_str (pa_cons (pv 1) pa_nil))) (pa_cons (pe_tup (pa_cons pe_str (pa_cons (pv 2) pa_nil))) pa_nil)))
        (pe_tuple T (pe_lcm (own := [("_law_sign", 7), ("_law_point_here", 8)]) (g := gTup K 2 (gCons (gName 7) (gCons (gName 8) gNil))) (te := tTup (tCons (tVar 7) (tCons (tCall (sp_as_part C) [] E0 (tCons (tVar 0) (tCons (tVar 8) tNil))) tNil))) nd (pi_zip2 T.zip (pa_cons (pv 5) (pa_cons (pv 3) pa_nil)))
            (blkOk_by (N := ["_law_land", "_law_low", "_law_high", "_law_points", "_law_wide", "_law_signs", "_law_roll", "_law_sign", "_law_point_here"]) (sc := defScope s__law_bring) (by decide +kernel))
            (fun _ _ _ _ _ => pg_tup (n := 2) rfl (pgs_cons (pg_name (i := 7) nd rfl (.inl rfl) (.inr rfl)) (pgs_cons (pg_name (i := 8) nd rfl (.inl rfl) (.inr rfl)) pgs_nil)))
            (fun _ _ _ _ _ => pe_tup (pa_cons (pv 7) (pa_cons (pe_kn W0 hr (pa_cons (pv 0) (pa_cons (pv 8) pa_nil))) pa_nil)))))))
      (pss_one (ps_ret (pe_knK W1 hr (pa_cons (pv 0) (pa_cons (pv 6) (pa_cons pe_str (pa_cons pe_str pa_nil)))) (pv 4)))))), ?_⟩
    refine ⟨a, rfl, by show 2 ≤ sizeLine; decide, fun t1 ht1 => ?_⟩
    have s1 : Same H (upd H t1 (.tup [.str "a", a])) := sm_new ht1
    have e1 : upd H t1 (.tup [.str "a", a]) t1 = some (.tup [.str "a", a]) := upd_same
    generalize upd H t1 (.tup [.str "a", a]) = H1 at s1 e1
    refine ⟨b, rfl, by show 2 ≤ sizeLine; decide, fun t2 ht2 => ?_⟩
    have s2 : Same H1 (upd H1 t2 (.tup [.str "b", b])) := sm_new ht2
    have e2 : upd H1 t2 (.tup [.str "b", b]) t2 = some (.tup [.str "b", b]) := upd_same
    generalize upd H1 t2 (.tup [.str "b", b]) = H2 at s2 e2
    refine ⟨by show 2 ≤ sizeLine; decide, fun t3 ht3 => ?_⟩
    have s3 : Same H2 (upd H2 t3 (.tup [.ref t1, .ref t2])) := sm_new ht3
    have e3 : upd H2 t3 (.tup [.ref t1, .ref t2]) t3 = some (.tup [.ref t1, .ref t2]) := upd_same
    generalize upd H2 t3 (.tup [.ref t1, .ref t2]) = H3 at s3 e3
    have s23 := s2.trans s3
    have s13 := s1.trans s23
    have ra : RowT H3 (.ref t1) ("a", Pa) := ⟨t1, _, _, rfl, s23 _ _ e1, rfl, stb_part _ _ _ _ (kt s13) hpa⟩
    have rb : RowT H3 (.ref t2) ("b", Pb) := ⟨t2, _, _, rfl, s3 _ _ e2, rfl, stb_part _ _ _ _ (kt s13) hpb⟩
    replace hu := hu.same stb_nats s13
    replace hw := hw.same s13
    obtain ⟨kd, xs, pxs, hsrc⟩ := hu.src (K := K)
    refine ⟨_, rfl, u, rfl, _, _, .s, kd, _, xs, rfl, ⟨LETTERS, rfl, rfl⟩, hsrc _ (Same.refl _), ?_⟩
    have plets : Paired (StrR H3) (LETTERS.cps.toList.map fun c => V.str ⟨#[c]⟩) lets := by
      have e : (LETTERS.cps.toList.map fun c => V.str ⟨#[c]⟩) = lets.map V.str := by unfold lets; rw [List.map_map]; rfl
      rw [e]
      exact pd_map (F := StrR H3) (f := V.str) (fun _ => rfl) _
    refine lc_prs stb_str stb_nats (Stb.d stb_row) (pairs_zip plets pxs) (by rw [List.length_zip, pd_len plets, pd_len pxs]) (by rw [List.length_zip, lets_len]; omega) (fun H' s' => ⟨⟨LETTERS, rfl, rfl⟩, hsrc _ s'⟩) (fun p => (p.1, one p.2)) (fun D p x H4 Kn hacc hp s4 rp kn => ?_) (fun D ys H4 hD s4 e4 p4 => ?_)
    · refine g_pair rp fun x y rx ry => ⟨rfl, ?_⟩
      have rx' : x = .str p.1 := rx
      subst rx'
      have hps : Sok ts p.2 := hsok _ (List.of_mem_zip hp).2
      refine ⟨_, rfl, v, rfl, y, rfl, v, y, ts, p.2, rfl, hw.same s4, ry, hps, fun z H5 s5 rz => ⟨by show 2 ≤ sizeLine; decide, fun t4 ht4 => ?_⟩⟩
      have s6 := sm_new (H := H5) (o := .tup [.str p.1, z]) ht4
      exact kn _ _ (s5.trans s6) ⟨t4, _, _, rfl, upd_same, rfl, stb_part _ _ _ _ (kt s6) rz⟩
    · refine tuple_lst e4 fun tu htu => ?_
      have s5 : Same H4 (upd H4 tu (.tup ys)) := sm_new htu
      have e5 : upd H4 tu (.tup ys) tu = some (.tup ys) := upd_same
      have p5 := stb_pairs stb_row (kt s5) p4
      generalize upd H4 tu (.tup ys) = H5 at s5 e5 p5
      have s45 := s4.trans s5
      have ra5 := stb_row _ _ _ _ (kt s45) ra
      have rb5 := stb_row _ _ _ _ (kt s45) rb
      have hyl : ys.length = pts.length := by rw [pd_len p5]; exact roll_len h22
      have hcat : ∀ Q' : VK, (∀ v' H', Same H5 H' → BookT H' v' (("a", Pa) :: ("b", Pb) :: roll pts) → Q' v' H') → rCatA K (.ref t3) (.ref tu) H5 Q' := by
        intro Q' hq
        refine ⟨t3, tu, [.ref t1, .ref t2], ys, rfl, rfl, SqT.of (s45 _ _ e3), SqT.of e5, ?_, fun hnil => ?_, fun _ hnil => ?_, fun _ _ pp hpp => ?_⟩
        · exact Nat.le_trans (show 2 + ys.length ≤ 24 by omega) (show 24 ≤ sizeLine by decide)
        · cases hnil
        · subst hnil
          have : roll pts = [] := by
            have := pd_len p5
            have e : (roll pts).length = 0 := this.symm
            exact List.length_eq_zero_iff.mp e
          exact hq _ _ (Same.refl _) ⟨t3, _, rfl, s45 _ _ e3, .cons ra5 (.cons rb5 (by rw [this]; exact .nil))⟩
        · have s6 := sm_new (H := H5) (o := .tup ([.ref t1, .ref t2] ++ ys)) hpp
          exact hq _ _ s6 ⟨pp, _, rfl, upd_same, .cons (stb_row _ _ _ _ (kt s6) ra5) (.cons (stb_row _ _ _ _ (kt s6) rb5) (stb_pairs stb_row (kt s6) p5))⟩
      refine hcat _ fun v' H6 s6 rv => ?_
      have s46 := s45.trans s6
      refine ⟨v, rfl, v', rfl, _, rfl, rfl, rfl, v, v', ts, ("a", Pa) :: ("b", Pb) :: roll pts, "a", "b", Pa, Pb, R, rfl, hw.same s46, rv, roll_ok oka okb h22 hsok, List.mem_cons_self, List.mem_cons_of_mem _ List.mem_cons_self, hR, fun t H7 kin s7 clo hk => ?_⟩
      refine q t H7 kin ((s13.trans s46).trans s7) ?_ hk
      have e : (("a", Pa) :: ("b", Pb) :: roll pts : List (Str × Prt)).map (·.2) = Pa :: Pb :: pts.map one := by
        rw [List.map_cons, List.map_cons, roll_parts h22]
      rw [e] at clo
      exact clo
end
end Jr
set_option Elab.async false
set_option linter.all false
set_option maxRecDepth 100000
set_option maxHeartbeats 4000000
/-! The class World: nothing of it is known at the start. -/
namespace Jr
open PySem PySem.Spec PyProof.Rows L2
section
variable {P : Program} {w : World} {K : PySem.W.Frag} {mg : Str → Option Value} {base : Heap} {f : Addr} {fd : FuncData} {C : Addr}
def sp_init2 (C : Addr) : Sp := fun vs H Q _ => ∃ x tv dx ts, vs = [.ref x, tv] ∧ H x = some (.ins C dx []) ∧ TupOf NatsT H tv ts ∧ (∀ t ∈ ts, TreeOk t) ∧ 1 ≤ ts.length ∧ ts.length ≤ 4 ∧
  ∀ H', (∀ c o, c ≠ x → H c = some o → H' c = some o) → WorldR C H' (.ref x) ts → (∀ l ys H'', l ≠ x → H l = some (.lst ys) → Ex l H' H'' → WorldR C H'' (.ref x) ts) → Q .non H'
theorem k_init2 (T : Tx mg) (W : WdOk K mg C) (W1 : Kn P w K mg base "is_tree" 3 ["thing"] sp_is_tree) (W2 : Kn P w K mg base "gaps" 3 ["tree"] sp_gaps)
    (F : FunD K "__init__" "World.__init__" (defArgs s_W_init) (defBody s_W_init) (defScope s_W_init) [] [] f fd) : Binds K fd ["self", "trees"] [] ∧ FnOk P w K mg base CX0 4 f fd ["self", "trees"] (sp_init2 C) := by
  refine ⟨F.bindsN (fun _ _ _ _ _ _ us hl => match us, hl with | [_, _], _ => rfl), F.ok c_W_init (fun vs H Q E h => ?_) (fun cdv A outer s H vs Q E hr h => ?_)⟩
  · obtain ⟨x, tv, dx, ts, rfl, _⟩ := h
    rfl
  · obtain ⟨x, tv, dx, ts, rfl, hx, htv, hok, h1, h4, q⟩ := h
    have nd := c_W_init.nd
    refine ⟨_, PSs.nox (pss_cons (ps_if (PW.pt (pw_or (pt_not (pt_val (pe_isi T (pv 1) T.tuple boot_tuple))) (pw_or1 (pt_not (pt_chain op_le op_le pe_int (pe_len T (pv 1)) (pe_con1 T.MOST_TREES)))))) pss_never pss_nil)
      (pss_cons (ps_forG (g := gTup K 2 (gCons (gName 2) (gCons (gName 3) gNil))) PassesOwn.never (pi_en T.enumerate (pa_cons (pv 1) pa_nil)) (pg_tup rfl (pgs_cons (pg_name (i := 2) nd rfl (.inl rfl) (.inl rfl)) (pgs_cons (pg_name (i := 3) nd rfl (.inl rfl) (.inl rfl)) pgs_nil)))
          (pss_one (ps_if (pt_not (pt_val (pe_kn W1 hr (pa_cons (pv 3) pa_nil)))) pss_never pss_nil)))
      (pss_cons (ps_fld (pv 0) (pv 1) rfl)
      (pss_one (ps_fld (pv 0) (pe_lcm (own := [("tree", 3)]) (g := gName 3) nd (pi_tup (pv 1)) (blkOk_by (N := ["self", "trees", "number", "tree"]) (sc := defScope s_W_init) (by decide +kernel)) (fun _ _ _ _ _ => pg_name (i := 3) nd rfl (.inl rfl) (.inr rfl))
          (fun _ _ _ _ _ => pe_kn W2 hr (pa_cons (pv 3) pa_nil))) rfl))))), ?_⟩
    obtain ⟨ta, txs, rfl, hta, tpd⟩ := htv
    have hl : (txs.length : Int) = (ts.length : Int) := by rw [pd_len tpd]
    refine ⟨.ref ta, rfl, isi_tup hta ⟨true, rfl, ?_⟩⟩
    refine iteF ⟨.ref ta, rfl, len_tup hta (pd_len tpd) ⟨1, ts.length, rfl, rfl, _, rfl, ?_⟩⟩
    rw [if_pos (decide_eq_true (by omega))]
    refine ⟨ts.length, 4, rfl, rfl, _, rfl, ?_⟩
    rw [decide_eq_true (by omega)]
    refine iteF ?_
    -- the loop that checks
    refine ⟨.ref ta, rfl, .ref ta, .t, txs, rfl, ⟨ta, rfl, SqT.of hta⟩, ?_⟩
    refine for_prs (R := NatR) (S := NatsT) (Rl := fun H' => Same H H') (fun H' v a _ r => r) (fun H' v a s' r => stb_nats _ _ _ _ (kt s') r) (fun H1 H2 a b => a.trans b) (pairs_en tpd) (by simp [pd_len tpd]) (fun H' s' => ⟨ta, rfl, SqT.of (s' _ _ hta)⟩)
      (fun i σ H' => Same H H' ∧ ∃ y z, σ = [some (.ref x), some (.ref ta), y, z]) ⟨Same.refl H, _, _, rfl⟩ (fun i σ H' h => h.1) ?_ ?_
    · rintro i b v σ H1 H2 hb ⟨s1, y0, z0, rfl⟩ s2 hp
      refine g_pair hp fun y z ry rz => ?_
      have hmem : b.2 ∈ ts := (List.of_mem_zip (List.mem_of_getElem? hb)).2
      exact ⟨z, rfl, z, b.2, rfl, rz, hok _ hmem, fun H3 s3 => ⟨true, rfl, iteF ⟨(s1.trans s2).trans s3, _, _, rfl⟩⟩⟩
    · rintro σ H1 ⟨s1, y0, z0, rfl⟩
      have hx1 := s1 _ _ hx
      have hta1 := s1 _ _ hta
      refine ⟨_, rfl, .ref x, rfl, x, C, dx, [], rfl, hx1, W.isc.cl, W.nt, by decide, ?_⟩
      have sx : ∀ c o, c ≠ x → H1 c = some o → upd H1 x (.ins C dx (putF "trees" (.ref ta) [])) c = some o := fun c o hc h => by rw [upd_ne hc]; exact h
      have tax : ta ≠ x := ne_of hta1 hx1 (fun z => by cases z)
      generalize hH2 : upd H1 x (.ins C dx (putF "trees" (.ref ta) [])) = H2 at sx
      have hx2 : H2 x = some (.ins C dx (putF "trees" (.ref ta) [])) := by rw [← hH2, upd_same]
      have hta2 := sx _ _ tax hta1
      have tpd2 : Paired (NatsT H2) txs ts := by
        have k12 : Kt H1 H2 := fun c xs h => sx c _ (ne_of h hx1 (fun z => by cases z)) h
        exact stb_pairs stb_nats ((kt s1).trans k12) tpd
      refine ⟨_, rfl, ta, rfl, ⟨_, SqT.of hta2⟩, ?_⟩
      have stT : StD (fun D => (fun H v t => v ≠ .ref D ∧ ∃ l xs, v = .ref l ∧ H2 l = none ∧ H l = some (.lst xs) ∧ Paired (fun v r => v ≠ .ref D ∧ ∃ q, v = .ref q ∧ H2 q = none ∧ H q = some (.lst (nvs r))) xs (gapsM t) : Rp (List Nat))) := by
        rintro D Ha Hb v t u ⟨hv, l, xs, rfl, hn, hl, p⟩
        have hlD : l ≠ D := fun e => hv (by rw [e])
        exact ⟨hv, l, xs, rfl, hn, u.2 _ _ hlD hl, Paired.mono (fun v r ⟨hv, q, e, hq, h⟩ => ⟨hv, q, e, hq, u.2 _ _ (fun e2 => hv (by rw [e, e2])) h⟩) p⟩
      refine lc_tupP stb_nats stT hta2 tpd2 (by omega) (fun t => t) (fun D t vt H3 Kn hacc ht s3 rt kn => ⟨rfl, ?_⟩) (fun D ys H3 hD s3 e3 p3 => ?_)
      · refine ⟨vt, rfl, vt, t, rfl, rt, hok t ht, fun l H4 s4 n4 r4 => ?_⟩
        obtain ⟨acc, hacc⟩ := hacc
        obtain ⟨l', xs, e, hl, p⟩ := r4
        cases e
        refine kn _ H4 s4 ⟨fun e => ?_, l, xs, rfl, s3.free n4, hl, Paired.mono (fun v r ⟨q, e, n, h⟩ => ⟨fun e2 => ?_, q, e, s3.free n, h⟩) p⟩
        · injection e with e
          rw [e, hacc] at n4; cases n4
        · rw [e] at e2
          injection e2 with e2
          rw [e2, hacc] at n; cases n
      · rw [List.map_id'] at p3
        have hx3 := s3 _ _ hx2
        refine ⟨.ref x, rfl, x, C, dx, _, rfl, hx3, W.isc.cl, W.nb, (by show 1 < 1000; decide), ?_⟩
        have sx3 : ∀ c o, c ≠ x → H3 c = some o → upd H3 x (.ins C dx (putF "tables" (.ref D) (putF "trees" (.ref ta) []))) c = some o := fun c o hc h => by rw [upd_ne hc]; exact h
        generalize hH4 : upd H3 x (.ins C dx (putF "tables" (.ref D) (putF "trees" (.ref ta) []))) = H4 at sx3
        have nx : ∀ c xs, H3 c = some (.lst xs) → c ≠ x := fun c xs h => ne_of h hx3 (fun z => by cases z)
        have k34 : Kt H3 H4 := fun c xs h => sx3 c _ (ne_of h hx3 (fun z => by cases z)) h
        have hall : ∀ H'', (∀ c o, (c = x ∨ H2 c = none ∨ ∃ xs, H3 c = some (.tup xs)) → H4 c = some o → H'' c = some o) → WorldR C H'' (.ref x) ts := by
          intro H'' k
          have kt2 : Kt H3 H'' := fun c xs h => k c _ (.inr (.inr ⟨xs, h⟩)) (k34 _ _ h)
          refine ⟨⟨x, dx, _, .ref ta, .ref D, rfl, k x _ (.inl rfl) (by rw [← hH4, upd_same]), rfl, rfl, rfl, ⟨ta, _, rfl, kt2 _ _ (s3 _ _ hta2), stb_pairs stb_nats ((kt s3).trans kt2) tpd2⟩, ⟨D, ys, rfl, k D _ (.inr (.inl hD)) (sx3 _ _ (nx _ _ e3) e3), ?_⟩⟩, hok, h1, h4⟩
          exact Paired.mono (fun v t ⟨_, l, xs, e, hn, hl, p⟩ => ⟨l, xs, e, k l _ (.inr (.inl hn)) (sx3 _ _ (nx _ _ hl) hl), Paired.mono (fun v r ⟨_, q, e, hq, h⟩ => ⟨q, e, k q _ (.inr (.inl hq)) (sx3 _ _ (nx _ _ h) h)⟩) p⟩) p3
        refine q H4 (fun c o hc h => sx3 _ _ hc (s3 _ _ (sx _ _ hc (s1 _ _ h)))) (hall H4 fun _ _ _ h => h) fun l ys' H'' hlx hl hex => hall H'' fun c o hc h => hex c o (fun e => ?_) h
        subst e
        have h2 := sx _ _ hlx (s1 _ _ hl)
        rcases hc with hc | hc | ⟨xs, hc⟩
        · exact hlx hc
        · rw [hc] at h2; cases h2
        · rw [s3 _ _ h2] at hc; cases hc
end
/-- a world that stands whatever becomes of the list at l -/
def WorldP (l : Addr) (C : Addr) (H : Hp) (v : V) (ts : Trs) : Prop := ∀ H', Ex l H H' → WorldR C H' v ts
theorem WorldP.r {l C : Addr} {H : Hp} {v : V} {ts : Trs} (h : WorldP l C H v ts) : WorldR C H v ts := h H (Ex.refl l H)
theorem WorldP.ex {l C : Addr} {H H' : Hp} {v : V} {ts : Trs} (h : WorldP l C H v ts) (e : Ex l H H') : WorldP l C H' v ts := fun H'' e' => h H'' (e.trans e')
end Jr
set_option Elab.async false
set_option linter.all false
set_option maxRecDepth 100000
set_option maxHeartbeats 4000000
/-! The law's own defs: no fewer. -/
namespace Jr
open PySem PySem.Spec PyProof.Rows L2
theorem LstD.pw {α : Type} {R : Rp α} (h : Stb R) {l : Addr} {H H' : Hp} (hp : PurH l H) (p : Pw l H H') {v : V} {as : List α} (r : LstD R l H v as) : LstD R l H' v as :=
  let ⟨a, xs, e, ne, ha, pd⟩ := r; ⟨a, xs, e, ne, p.ex _ _ ne ha, stb_pairs h (p.kt hp) pd⟩
theorem lstD_of {l : Addr} {H : Hp} {v : V} {as : List (List Nat)} (hp : PurH l H) (hne : as ≠ []) (r : LstOf NatsT H v as) : LstD NatsT l H v as := by
  obtain ⟨a, xs, e, ha, pd⟩ := r
  refine ⟨a, xs, e, fun q => ?_, ha, pd⟩
  subst q
  obtain ⟨x, y, z, h⟩ := hp
  rw [ha] at h
  injection h with h
  injection h with h
  subst h
  cases as with
  | nil => exact hne rfl
  | cons b bs =>
    cases pd with
    | cons r _ =>
      obtain ⟨t, ts, q, _⟩ := r
      cases q
structure LandR (l C : Addr) (H : Hp) (v a b : V) (ts : Trs) (Pa Pb : Prt) : Prop where
  w : WorldP l C H v ts
  pa : PartT H a Pa
  pb : PartT H b Pb
  oka : Pok ts Pa
  okb : Pok ts Pb
  pur : PurH l H
section
variable {l C : Addr} {H H' : Hp} {v a b u : V} {ts : Trs} {Pa Pb : Prt} {pts : List (List Nat)} {R : Nat} {Q : VK} {E : XK}
theorem LandR.pw (L : LandR l C H v a b ts Pa Pb) (p : Pw l H H') : LandR l C H' v a b ts Pa Pb := ⟨L.w.ex p.ex, stb_part _ _ _ _ (p.kt L.pur) L.pa, stb_part _ _ _ _ (p.kt L.pur) L.pb, L.oka, L.okb, p.pur⟩
theorem LandR.same (L : LandR l C H v a b ts Pa Pb) (s : Same H H') : LandR l C H' v a b ts Pa Pb := L.pw (Pw.same L.pur s)
theorem bring_no (L : LandR l C H v a b ts Pa Pb) (hu : SeqOf NatsT H u pts) (hs : ∀ s ∈ pts, Sok ts s) (h22 : pts.length ≤ 22) (hR : R ≤ 48) (hm : pts.length < (far ts Pa Pb - 1) / R) (q : ∀ H', Same H H' → Q (.bl false) H') : sp_bring C [v, a, b, u, .int (R : Int)] H Q E := by
  refine ⟨v, a, b, u, ts, Pa, Pb, pts, R, rfl, L.w.r, L.pa, L.pb, L.oka, L.okb, hu, hs, h22, hR, fun t H' kin s clo hk => ?_⟩
  have hn := fewer_not L.oka L.okb (fun s h => (hs s h).len) hm clo
  have : t = false := by
    cases t with
    | false => rfl
    | true => exact absurd (hk.mp rfl) hn
  rw [this]
  exact q H' s
theorem bring_yes (L : LandR l C H v a b ts Pa Pb) {ws : List (List Nat)} (W : Wlk ts Pa Pb (far ts Pa Pb) ws) (hu : SeqOf NatsT H u (told ws R)) (h22 : (told ws R).length ≤ 22) (h0 : 0 < R) (hR : R ≤ 48) (q : ∀ H', Same H H' → Q (.bl true) H') : sp_bring C [v, a, b, u, .int (R : Int)] H Q E := by
  refine ⟨v, a, b, u, ts, Pa, Pb, told ws R, R, rfl, L.w.r, L.pa, L.pb, L.oka, L.okb, hu, told_ok W h0, h22, hR, fun t H' kin s clo hk => ?_⟩
  rw [hk.mpr (told_brings W h0 L.oka L.okb clo)]
  exact q H' s
end
theorem tnil_in {σ : L2.St} {H : Hp} {Q : List V → Hp → Prop} (h : Q [] H) : tNil σ H Q := h
theorem any_false {α : Type} (as : List α) : (as.map fun _ => false).any id = false := by
  rw [List.any_map]
  exact List.any_eq_false.mpr fun _ _ => by simp
abbrev NFN : List Str := ["_law_purse_here", "_law_land", "_law_grove", "_law_low", "_law_high", "_law_wide", "_law_count", "_law_every", "_law_point_here", "_law_k", "_law_turn", "_law_lot"]
section
variable {P : Program} {w : World} {K : PySem.W.Frag} {mg : Str → Option Value} {base : Heap} {f : Addr} {fd : FuncData} {C : Addr}
def sp_no_fewer (C : Addr) : Sp := fun vs H Q _ => ∃ l v gv a b ts Pa Pb, ∃ R cnt : Nat, vs = [.ref l, v, gv, a, b, .int (R : Int), .int (cnt : Int)] ∧ LandR l C H v a b ts Pa Pb ∧ PartT H gv ts ∧ prod ts ≤ 400 ∧ R ≤ 48 ∧ cnt = (far ts Pa Pb - 1) / R ∧ 0 < cnt ∧ cnt ≤ 22 ∧
  ∀ H', Pw l H H' → Q (.bl true) H'
theorem k_no_fewer (T : Tx mg) (W0 : Kn P w K mg base "_law_all_points" 1 ["_law_grove"] sp_points) (W1 : Kn P w K mg base "_law_bring" 9 ["_law_land", "_law_low", "_law_high", "_law_points", "_law_wide"] (sp_bring C)) (W2 : Kn P w K mg base "_law_pick" 1 ["_law_purse_here", "_law_count"] sp_pick)
    (F : FnP K "_law_no_fewer" s__law_no_fewer f fd) (g : mg "_law_no_fewer" = some (.ref f)) : Kn P w K mg base "_law_no_fewer" 10 ["_law_purse_here", "_law_land", "_law_grove", "_law_low", "_law_high", "_law_wide", "_law_count"] (sp_no_fewer C) := by
  refine kn_of F g (F.ok c__law_no_fewer (fun vs H Q E h => ?_) (fun cdv A outer s H vs Q E hr h => ?_)) (fun _ _ _ _ _ _ us hl => match us, hl with | [_, _, _, _, _, _, _], _ => rfl)
  · obtain ⟨l, v, gv, a, b, ts, Pa, Pb, R, cnt, rfl, _⟩ := h
    rfl
  · obtain ⟨l, v, gv, a, b, ts, Pa, Pb, R, cnt, rfl, L, hg, hprod, hR, hcnt, hc0, hc20, q⟩ := h
    have nd := c__law_no_fewer.nd
    refine ⟨_, PSs.nox (pss_cons (ps_set (i := 7) nd rfl (.inr rfl) (pe_kn W0 hr (pa_cons (pv 2) pa_nil)))
      (pss_cons (ps_if (pt_cmpR op_eq (pv 6) pe_int (nomark _)) (pss_one (ps_ret (pe_cmpR op_is_bl (pe_kn W1 hr (pa_cons (pv 1) (pa_cons (pv 3) (pa_cons (pv 4) (pa_cons (pe_lst pa_nil) (pa_cons (pv 5) pa_nil)))))) pe_bl rfl))) pss_nil)
      (pss_cons (ps_if (pt_cmpR op_eq (pv 6) pe_int (nomark _)) (pss_one (ps_ret (pe_not (pe_any T
          (pe_lcm (own := [("_law_point_here", 8)]) (g := gName 8) (te := tCall (sp_bring C) [] E0 (tCons (tVar 1) (tCons (tVar 3) (tCons (tVar 4) (tCons (tLst (tCons (tVar 8) tNil)) (tCons (tVar 5) tNil)))))) nd (pi_list (pv 7)) (blkOk_by (N := NFN) (sc := defScope s__law_no_fewer) (by decide +kernel)) (fun _ _ _ _ _ => pg_name (i := 8) nd rfl (.inl rfl) (.inr rfl))
            (fun _ _ _ _ _ => pe_kn W1 hr (pa_cons (pv 1) (pa_cons (pv 3) (pa_cons (pv 4) (pa_cons (pe_lst (pa_cons (pv 8) pa_nil)) (pa_cons (pv 5) pa_nil))))))))))) pss_nil)
      (pss_cons (ps_if (pt_cmpR op_eq (pv 6) pe_int (nomark _))
        (pss_cons (ps_forG (g := gName 9) PassesOwn.never (pi_range1 (by rfl) T.range (pa_cons (pe_len T (pv 7)) pa_nil)) (pg_name (i := 9) nd rfl (.inr rfl) (.inl rfl))
          (pss_one (ps_if (pt_val (pe_any T
            (pe_lcm (own := [("_law_point_here", 8)]) (g := gName 8) (te := tCall (sp_bring C) [] E0 (tCons (tVar 1) (tCons (tVar 3) (tCons (tVar 4) (tCons (tLst (tCons (tOp (rIxL K) (tVar 7) (tVar 9)) (tCons (tVar 8) tNil))) (tCons (tVar 5) tNil)))))) nd (pi_list (pe_slice sl_list (pv 7) po_none (po_some (pv 9)))) (blkOk_by (N := NFN) (sc := defScope s__law_no_fewer) (by decide +kernel)) (fun _ _ _ _ _ => pg_name (i := 8) nd rfl (.inl rfl) (.inr rfl))
              (fun _ _ _ _ _ => pe_kn W1 hr (pa_cons (pv 1) (pa_cons (pv 3) (pa_cons (pv 4) (pa_cons (pe_lst (pa_cons (pe_ix ix_list (pv 7) (pv 9) (fun _ _ => rfl)) (pa_cons (pv 8) pa_nil))) (pa_cons (pv 5) pa_nil))))))))) (pss_one (ps_ret pe_bl)) pss_nil)))
        (pss_one (ps_ret pe_bl))) pss_nil)
      (pss_cons (ps_forG (g := gName 10) PassesOwn.never (pi_range1 (by rfl) T.range (pa_cons pe_int pa_nil)) (pg_name (i := 10) nd rfl (.inl rfl) (.inl rfl))
        (pss_cons (ps_lcm (i := 11) (own := [("_law_k", 9)]) (g := gName 9) (te := tOp (rIxL K) (tVar 7) (tCall sp_pick [] E0 (tCons (tVar 0) (tCons (tCB (aLen K) (tCons (tVar 7) tNil)) tNil)))) nd rfl rfl (sw_true rfl rfl rfl (by decide +kernel))
            (pi_range1 (by rfl) T.range (pa_cons (pe_op op_sub (pv 6) pe_int) pa_nil)) (blkOk_by (N := NFN) (sc := defScope s__law_no_fewer) (by decide +kernel)) (fun _ _ _ _ _ => pg_name (i := 9) nd rfl (.inl rfl) (.inr rfl))
            (fun _ _ _ _ _ => pe_ix ix_list (pv 7) (pe_kn W2 hr (pa_cons (pv 0) (pa_cons (pe_len T (pv 7)) pa_nil))) (fun _ _ => rfl)))
        (pss_one (ps_if (pt_cmpR op_isnot_bl (pe_kn W1 hr (pa_cons (pv 1) (pa_cons (pv 3) (pa_cons (pv 4) (pa_cons (pv 11) (pa_cons (pv 5) pa_nil)))))) pe_bl (nomark _)) (pss_one (ps_ret pe_bl)) pss_nil))))
      (pss_one (ps_ret pe_bl))))))), ?_⟩
    refine ⟨gv, rfl, gv, ts, rfl, hg, L.w.r.ok, L.w.r.len.2, hprod, fun ev H1 s1 rev => ?_⟩
    replace L := L.same s1
    have hmem : ∀ s ∈ allSp [[]] ts, Sok ts s := fun s h => allSp_sok.mp h
    have hlen : (allSp [[]] ts).length = prod ts := by rw [allSp_len, List.length_singleton, Nat.one_mul]
    have hpos : 0 < (allSp [[]] ts).length := by rw [hlen]; exact prod_pos ts
    generalize allSp [[]] ts = spots at rev hmem hlen hpos
    have rev := lstD_of L.pur (fun e => by rw [e] at hpos; exact absurd hpos (Nat.lt_irrefl 0)) rev
    have fin : ∀ H', Pw l H1 H' → Q (.bl true) H' := fun H' p => q H' ⟨(Jr.Same.ex s1).trans p.ex, p.pur⟩
    refine ⟨_, rfl, rfl, _, rfl, ?_⟩
    by_cases h1 : cnt = 1
    · rw [decide_eq_true (by rw [h1]; rfl)]
      refine iteT ⟨v, rfl, a, rfl, b, rfl, by show 0 ≤ sizeLine; exact Nat.zero_le _, fun el hel => ⟨_, rfl, tnil_in ?_⟩⟩
      have s2 : Same H1 (upd H1 el (.lst [])) := sm_new hel
      refine bring_no (pts := []) (L.same s2) (.inr ⟨el, [], rfl, upd_same, .nil⟩) (fun _ h => (nomatch h)) (by decide) hR (by rw [List.length_nil, ← hcnt]; exact hc0) fun H2 s3 => ?_
      exact ⟨false, false, rfl, rfl, fin H2 (Pw.same L.pur (s2.trans s3))⟩
    rw [decide_eq_false (fun e => h1 (by have e' : V.int (cnt : Int) = V.int 1 := e; injection e' with e'; omega))]
    refine iteF ⟨_, rfl, rfl, _, rfl, ?_⟩
    obtain ⟨ea, exs, rfl, hel, hea, pde⟩ := rev
    by_cases h2 : cnt = 2
    · rw [decide_eq_true (by rw [h2]; rfl)]
      refine iteT ⟨.ref ea, rfl, ea, rfl, ⟨_, SqL.of hea⟩, ?_⟩
      refine lc_lstP stb_nats (Stb.d stb_bl) hea pde (by omega) (fun _ => false) (fun D s vs H2 Kn hacc hs s2 rs kn => ⟨rfl, ?_⟩) (fun D ys H2 hD s2 e2 p2 => ?_)
      · refine ⟨v, rfl, a, rfl, b, rfl, vs, rfl, by show 1 ≤ sizeLine; decide, fun pl hpl => ⟨_, rfl, tnil_in ?_⟩⟩
        have s3 : Same H2 (upd H2 pl (.lst [vs])) := sm_new hpl
        refine bring_no (pts := [s]) (L.same (s2.trans s3)) (.inr ⟨pl, _, rfl, upd_same, .cons (stb_nats _ _ _ _ (kt s3) rs) .nil⟩) (fun z h => by rw [List.mem_singleton.mp h]; exact hmem s hs) (by show 1 ≤ 22; decide) hR (by rw [List.length_singleton, ← hcnt]; omega) fun H3 s4 => ?_
        exact kn _ H3 (s3.trans s4) rfl
      · refine any_ans e2 p2 ?_
        rw [any_false]
        exact ⟨false, rfl, fin H2 (Pw.same L.pur s2)⟩
    rw [decide_eq_false (fun e => h2 (by have e' : V.int (cnt : Int) = V.int 2 := e; injection e' with e'; omega))]
    refine iteF ⟨_, rfl, rfl, _, rfl, ?_⟩
    by_cases h3 : cnt = 3
    · rw [decide_eq_true (by rw [h3]; rfl)]
      refine iteT ⟨.ref ea, rfl, len_lst hea (pd_len pde) ⟨(spots.length : Int), rfl, by omega, by omega, ?_⟩⟩
      rw [Int.toNat_natCast]
      refine for_it walk_range (fun i σ H' => Same H1 H' ∧ ∃ x8 x9 x10 x11, σ = [some (.ref l), some v, some gv, some a, some b, some (.int (R : Int)), some (.int (cnt : Int)), some (.ref ea), x8, x9, x10, x11]) ⟨Same.refl _, _, _, _, _, rfl⟩ (fun _ _ _ _ _ => trivial) ?_ ?_
      · rintro i x σ H2 H2' hi ⟨s2, x8, x9, x10, x11, rfl⟩ ⟨rfl, rfl⟩
        have hea2 := s2 _ _ hea
        refine ⟨.ref ea, rfl, _, rfl, ?_⟩
        have ei : V.int (0 + (i : Int)) = V.int (i : Int) := by rw [Int.zero_add]
        refine ⟨(0 + (i : Int)), rfl, ?_⟩
        refine ⟨ea, exs, rfl, SqL.of hea2, fun sl hsl => ?_⟩
        have s3 : Same H2' (upd H2' sl (.lst (cutV exs none (some (0 + (i : Int)))))) := sm_new hsl
        have esl : upd H2' sl (.lst (cutV exs none (some (0 + (i : Int))))) sl = some (.lst (cutV exs none (some (0 + (i : Int))))) := upd_same
        generalize upd H2' sl (.lst (cutV exs none (some (0 + (i : Int))))) = H3 at s3 esl
        rw [Int.zero_add, cut_to] at esl
        have s13 := s2.trans s3
        refine ⟨sl, rfl, ⟨_, SqL.of esl⟩, ?_⟩
        obtain ⟨si, hsi⟩ := get_lt (as := spots) (i := i) hi
        obtain ⟨vi, hvi, _⟩ := pd_getr pde hsi
        refine lc_lstP stb_nats (Stb.d stb_bl) esl (stb_pairs stb_nats (kt s13) (pd_take i pde)) (by rw [List.length_take]; omega) (fun _ => false) (fun D s vs H4 Kn hacc hs s4 rs kn => ⟨rfl, ?_⟩) (fun D ys H4 hD s4 e4 p4 => ?_)
        · have s14 := s13.trans s4
          refine ⟨v, rfl, a, rfl, b, rfl, .ref ea, rfl, _, rfl, ea, exs, (0 + (i : Int)), vi, rfl, rfl, SqL.of (s14 _ _ hea), by rw [Int.zero_add]; exact atI_nat hvi, vs, rfl, by show 2 ≤ sizeLine; decide, fun pl hpl => ⟨_, rfl, tnil_in ?_⟩⟩
          have s5 : Same H4 (upd H4 pl (.lst [vi, vs])) := sm_new hpl
          have rvi : NatsT H4 vi si := by
            obtain ⟨s', hs', r⟩ := pd_get (stb_pairs stb_nats (kt s14) pde) hvi
            rw [hsi] at hs'
            cases hs'
            exact r
          refine bring_no (pts := [si, s]) (L.same (s14.trans s5)) (.inr ⟨pl, _, rfl, upd_same, .cons (stb_nats _ _ _ _ (kt s5) rvi) (.cons (stb_nats _ _ _ _ (kt s5) rs) .nil)⟩) (fun z h => ?_) (by show 2 ≤ 22; decide) hR (by rw [← hcnt, h3]; show 2 < 3; decide) fun H5 s6 => ?_
          · rcases List.mem_cons.mp h with rfl | h
            · exact hmem _ (List.mem_of_getElem? hsi)
            · rw [List.mem_singleton.mp h]; exact hmem s (List.take_subset _ _ hs)
          · exact kn _ H5 (s5.trans s6) rfl
        · refine any_ans e4 p4 ?_
          rw [any_false]
          exact ⟨false, rfl, iteF ⟨s13.trans s4, _, _, _, _, rfl⟩⟩
      · rintro σ H2 ⟨s2, x8, x9, x10, x11, rfl⟩
        exact fin H2 (Pw.same L.pur s2)
    rw [decide_eq_false (fun e => h3 (by have e' : V.int (cnt : Int) = V.int 3 := e; injection e' with e'; omega))]
    refine iteF ⟨12, rfl, by omega, by omega, ?_⟩
    refine for_it walk_range (fun i σ H' => Pw l H1 H' ∧ ∃ x8 x9 x10 x11, σ = [some (.ref l), some v, some gv, some a, some b, some (.int (R : Int)), some (.int (cnt : Int)), some (.ref ea), x8, x9, x10, x11]) ⟨Pw.refl L.pur, _, _, _, _, rfl⟩ (fun _ _ _ _ _ => trivial) ?_ ?_
    · rintro i x σ H2 H2' hi ⟨p2, x8, x9, x10, x11, rfl⟩ ⟨rfl, rfl⟩
      refine ⟨_, rfl, _, _, rfl, rfl, ((cnt : Int) - 1), rfl, by omega, by omega, ?_⟩
      have er : ((cnt : Int) - 1).toNat = cnt - 1 := by omega
      rw [er]
      have rev2 : LstD NatsT l H2' (.ref ea) spots := LstD.pw stb_nats L.pur p2 ⟨ea, exs, rfl, hel, hea, pde⟩
      replace L := L.pw p2
      refine lc_mapX walk_range (List.range (cnt - 1)) List.length_range.symm (by rw [List.length_range]; omega) stb_nats (fun _ s => s ∈ spots) L.pur (fun _ _ => trivial) ?_ ?_
      · rintro D k z y H3 H3' Kn hD hDl hz p3 ⟨rfl, rfl⟩ kn
        have rev3 := LstD.pw stb_nats L.pur p3 rev2
        obtain ⟨_, _, e, hel3, hea3, pde3⟩ := rev3
        cases e
        refine ⟨rfl, .ref ea, rfl, .ref l, rfl, .ref ea, rfl, ?_⟩
        refine len_lst hea3 (pd_len pde3) ?_
        refine ⟨l, spots.length, rfl, hpos, by omega, p3.pur, fun r H4 p4 hr4 => ?_⟩
        have hea4 := p4.ex _ _ hel3 hea3
        obtain ⟨si, hsi⟩ := get_lt hr4
        obtain ⟨vi, hvi, rvi⟩ := pd_getr pde3 hsi
        exact ⟨ea, _, (r : Int), vi, rfl, rfl, SqL.of hea4, atI_nat hvi, kn vi si H4 p4 (stb_nats _ _ _ _ (p4.kt p3.pur) rvi) (List.mem_of_getElem? hsi)⟩
      · intro D ys bs H3 hD p3 hDl e3 pd3 rel3
        have hbl : bs.length = cnt - 1 := by rw [← pd_len rel3, List.length_range]
        refine ⟨v, rfl, a, rfl, b, rfl, _, rfl, _, rfl, tnil_in ?_⟩
        refine bring_no (pts := bs) (L.pw p3) (.inr ⟨D, ys, rfl, e3, pd3⟩) (fun z h => ?_) (by omega) hR (by rw [hbl, ← hcnt]; omega) fun H4 s4 => ?_
        · obtain ⟨k, hk⟩ := List.mem_iff_getElem?.mp h
          obtain ⟨y, _, hy⟩ := pd_getr rel3 hk
          exact hmem z hy
        · exact ⟨false, false, rfl, rfl, _, rfl, iteF ⟨p2.trans (p3.trans (Pw.same p3.pur s4)), _, _, _, _, rfl⟩⟩
    · rintro σ H2 ⟨p2, x8, x9, x10, x11, rfl⟩
      exact fin H2 p2
end
end Jr
set_option Elab.async false
set_option linter.all false
set_option maxRecDepth 100000
set_option maxHeartbeats 4000000
/-! The law's own defs: helps is right. -/
namespace Jr
open PySem PySem.Spec PyProof.Rows L2
/-- x in a tuple -/
structure rInTR (K : PySem.W.Frag) (x y : V) (H : Hp) (Q : VK) : Prop where
  ex : ∃ d ds, Dp K H x d ∧ Dp K H y (.tuple ds) ∧ SeqAt.shaped d = true ∧ SeqAt.shaped (.tuple ds) = true ∧ Q (.bl (ds.any fun z => PyData.eqv z d)) H
theorem op_inTR {X : Cx} (hu : X.A.units + 65 < cLine) : OpR X (compareOp .In) (rInTR X.K) := by
  intro pins s σ H x y v u Q I rx ry h
  obtain ⟨d, ds, hd, he, sd, se, q⟩ := h.ex
  obtain ⟨as, r1⟩ := Dp.reads I d x v hd rx
  obtain ⟨bs, r2⟩ := Dp.reads I (.tuple ds) y u he ry
  exact SeqAt.in_tuple_reads r2 r1 (SeqAt.canLay_of_shaped se) (SeqAt.canLay_of_shaped sd) (room_in_shaped sd hu) ⟨.bl _, H, I, rfl, q⟩
theorem in_TR {α : Type} [DecidableEq α] {enc : α → PyData} {d : Nat} {K : PySem.W.Frag} {R : Rp α} {H : Hp} {x y : V} {a : α} {as : List α} {Q : VK} (e : EncOk enc d) (hd : d ≤ 60) (p : DpR K R enc) (r : R H x a) (r' : TupOf R H y as) (hm : a ∈ as) (q : Q (.bl true) H) : rInTR K x y H Q :=
  ⟨⟨enc a, as.map enc, p _ _ _ r, dp_tup p _ _ _ r', e.shaped (by omega) a, (encT e).shaped (by omega) as, by rw [any_enc e, decide_eq_true hm]; exact q⟩⟩
theorem two_ok {ts : Trs} {Pa Pb : Prt} (ha : Pok ts Pa) (hb : Pok ts Pb) : BookOk ts [("me", Pa), ("you", Pb)] where
  few := by show 2 ≤ 24; decide
  nms := fun r hr => by
    have h : ∀ z ∈ [("me" : Str), ("you" : Str)], 0 < z.length ∧ z.length ≤ 8 ∧ ∀ c ∈ z.cps.toList, c ∈ SIGNS.cps.toList := by decide +kernel
    have hz : r.1 ∈ [("me" : Str), ("you" : Str)] := List.mem_map.mpr ⟨r, hr, rfl⟩
    exact ⟨(h _ hz).1, (h _ hz).2.1, (h _ hz).2.2⟩
  pok := fun r hr => by
    rcases List.mem_cons.mp hr with rfl | hr
    · exact ha
    · rw [List.mem_singleton.mp hr]; exact hb
  nd := by show [("me" : Str), ("you" : Str)].Nodup; decide +kernel
section
variable {P : Program} {w : World} {K : PySem.W.Frag} {mg : Str → Option Value} {base : Heap} {f : Addr} {fd : FuncData} {C : Addr}
def sp_helps_right (C : Addr) : Sp := fun vs H Q _ => ∃ v gv a b u ts Pa Pb ws, ∃ R : Nat, vs = [v, gv, a, b, .int (R : Int), u] ∧ WorldR C H v ts ∧ PartT H gv ts ∧ PartT H a Pa ∧ PartT H b Pb ∧ Pok ts Pa ∧ Pok ts Pb ∧ prod ts ≤ 400 ∧ 0 < R ∧ R ≤ 48 ∧ Wlk ts Pa Pb (far ts Pa Pb) ws ∧ SpotsT H u (told ws R) ∧ (told ws R).length = (far ts Pa Pb - 1) / R ∧
  ∀ H', Same H H' → Q (.bl true) H'
theorem k_helps_right (T : Tx mg) (W0 : Kn P w K mg base "_law_all_points" 1 ["_law_grove"] sp_points) (W1 : KnK P w K mg base "helps" 8 ["world", "book", "one", "other", "reach"] (sp_helps C))
    (F : FnP K "_law_helps_right" s__law_helps_right f fd) (g : mg "_law_helps_right" = some (.ref f)) : Kn P w K mg base "_law_helps_right" 9 ["_law_land", "_law_grove", "_law_low", "_law_high", "_law_wide", "_law_told"] (sp_helps_right C) := by
  refine kn_of F g (F.ok c__law_helps_right (fun vs H Q E h => ?_) (fun cdv A outer s H vs Q E hr h => ?_)) (fun _ _ _ _ _ _ us hl => match us, hl with | [_, _, _, _, _, _], _ => rfl)
  · obtain ⟨v, gv, a, b, u, ts, Pa, Pb, ws, R, rfl, _⟩ := h
    rfl
  · obtain ⟨v, gv, a, b, u, ts, Pa, Pb, ws, R, rfl, hw, hg, hpa, hpb, oka, okb, hprod, h0, hR, W, hu, hlen, q⟩ := h
    have nd := c__law_helps_right.nd
    refine ⟨_, PSs.nox (pss_cons (ps_set (i := 6) nd rfl (.inl rfl) (pe_knK W1 hr (pa_cons (pv 0) (pa_cons (pe_tup (pa_cons (pe_tup (pa_cons pe_str (pa_cons (pv 2) pa_nil))) (pa_cons (pe_tup (pa_cons pe_str (pa_cons (pv 3) pa_nil))) pa_nil))) (pa_cons pe_str (pa_cons pe_str pa_nil)))) (pv 4)))
      (pss_cons (ps_if (pt_cmpR (op_eqR (hu64 hr)) (pv 5) (pe_tup pa_nil) (nomark _)) (pss_one (ps_ret (pe_cmpR (op_eqR (hu64 hr)) (pv 6) (pe_tuple T (pe_kn W0 hr (pa_cons (pv 1) pa_nil))) rfl))) pss_nil)
      (pss_cons (ps_if (pt_cmpR op_gt (pe_len T (pv 5)) pe_int (nomark _)) (pss_one (ps_ret (pe_cmpR (op_eqR (hu64 hr)) (pv 6) (pe_tup pa_nil) rfl))) pss_nil)
      (pss_one (ps_ret (pe_cmpR (op_inTR (hu65 hr)) (pe_ix ix_tup (pv 5) pe_int (fun _ _ => rfl)) (pv 6) rfl)))))), ?_⟩
    refine ⟨v, rfl, a, rfl, by show 2 ≤ sizeLine; decide, fun t1 ht1 => ?_⟩
    have s1 : Same H (upd H t1 (.tup [.str "me", a])) := sm_new ht1
    have e1 : upd H t1 (.tup [.str "me", a]) t1 = some (.tup [.str "me", a]) := upd_same
    generalize upd H t1 (.tup [.str "me", a]) = H1 at s1 e1
    refine ⟨b, rfl, by show 2 ≤ sizeLine; decide, fun t2 ht2 => ?_⟩
    have s2 : Same H1 (upd H1 t2 (.tup [.str "you", b])) := sm_new ht2
    have e2 : upd H1 t2 (.tup [.str "you", b]) t2 = some (.tup [.str "you", b]) := upd_same
    generalize upd H1 t2 (.tup [.str "you", b]) = H2 at s2 e2
    refine ⟨by show 2 ≤ sizeLine; decide, fun t3 ht3 => ?_⟩
    have s3 : Same H2 (upd H2 t3 (.tup [.ref t1, .ref t2])) := sm_new ht3
    have e3 : upd H2 t3 (.tup [.ref t1, .ref t2]) t3 = some (.tup [.ref t1, .ref t2]) := upd_same
    generalize upd H2 t3 (.tup [.ref t1, .ref t2]) = H3 at s3 e3
    have s23 := s2.trans s3
    have s13 := s1.trans s23
    have ra : RowT H3 (.ref t1) ("me", Pa) := ⟨t1, _, _, rfl, s23 _ _ e1, rfl, stb_part _ _ _ _ (kt s13) hpa⟩
    have rb : RowT H3 (.ref t2) ("you", Pb) := ⟨t2, _, _, rfl, s3 _ _ e2, rfl, stb_part _ _ _ _ (kt s13) hpb⟩
    refine ⟨_, rfl, rfl, rfl, v, .ref t3, ts, [("me", Pa), ("you", Pb)], "me", "you", Pa, Pb, R, rfl, hw.same s13, ⟨t3, _, rfl, e3, .cons ra (.cons rb .nil)⟩, two_ok oka okb, List.mem_cons_self, List.mem_cons_of_mem _ List.mem_cons_self, hR, hprod, fun x H4 kin fnd s4 rf clo hh => ?_⟩
    have s14 := s13.trans s4
    have hu4 := stb_part _ _ _ _ (kt s14) hu
    have hpts : ∀ s ∈ allSp [[]] ts, Sok ts s := fun s h => allSp_sok.mp h
    have clo' : Clo ts R [Pa, Pb] kin := clo
    refine ⟨u, rfl, by show 0 ≤ sizeLine; exact Nat.zero_le _, fun e0 he0 => ?_⟩
    have s5 : Same H4 (upd H4 e0 (.tup [])) := sm_new he0
    have ee0 : upd H4 e0 (.tup []) e0 = some (.tup []) := upd_same
    generalize upd H4 e0 (.tup []) = H5 at s5 ee0
    have hu5 := stb_part _ _ _ _ (kt s5) hu4
    have rf5 := stb_part _ _ _ _ (kt s5) rf
    have s15 := s14.trans s5
    refine eq_R (R := SpotsT) (S := SpotsT) (encT (encT encN)) (by decide) (dp_tup (dp_tup dp_nat)) (dp_tup (dp_tup dp_nat)) (a := told ws R) (b := []) hu5 ⟨e0, _, rfl, ee0, .nil⟩ ⟨_, rfl, ?_⟩
    by_cases ht : told ws R = []
    · rw [decide_eq_true ht]
      have hz : (far ts Pa Pb - 1) / R = 0 := by rw [← hlen, ht]; rfl
      have hall : fnd = allSp [[]] ts := hh.all fun s hs t ⟨kin2, c2, hk⟩ => hk.mpr (help_all oka okb h0 hz clo' c2)
      refine iteT ⟨x, rfl, gv, rfl, gv, ts, rfl, stb_part _ _ _ _ (kt s15) hg, hw.ok, hw.len.2, hprod, fun l6 H6 s6 r6 => ?_⟩
      obtain ⟨pa', pxs, rfl, hpl, ppd⟩ := r6
      refine tuple_lst hpl fun tu htu => ?_
      have s7 : Same H6 (upd H6 tu (.tup pxs)) := sm_new htu
      have s67 := s6.trans s7
      refine eq_R (R := SpotsT) (S := SpotsT) (encT (encT encN)) (by decide) (dp_tup (dp_tup dp_nat)) (dp_tup (dp_tup dp_nat)) (a := fnd) (b := allSp [[]] ts) (stb_part _ _ _ _ (kt s67) rf5) ⟨tu, pxs, rfl, upd_same, stb_pairs stb_nats (kt s7) ppd⟩ ?_
      rw [decide_eq_true hall]
      exact q _ (s15.trans s67)
    · rw [decide_eq_false ht]
      obtain ⟨ua, uxs, rfl, hua, upd5⟩ := hu5
      refine iteF ⟨.ref ua, rfl, len_tup hua (pd_len upd5) ⟨_, _, rfl, rfl, _, rfl, ?_⟩⟩
      by_cases h1 : 1 < (told ws R).length
      · rw [decide_eq_true (by omega)]
        have hno : fnd = [] := hh.none fun s hs t ⟨kin2, c2, hk⟩ => by
          have hn := help_none oka okb (by rw [← hlen]; exact h1) clo' (hpts s hs).len c2
          cases t with
          | false => rfl
          | true => exact absurd (hk.mp rfl) hn
        refine iteT ⟨x, rfl, by show 0 ≤ sizeLine; exact Nat.zero_le _, fun e1 he1 => ?_⟩
        have s6 : Same H5 (upd H5 e1 (.tup [])) := sm_new he1
        refine eq_R (R := SpotsT) (S := SpotsT) (encT (encT encN)) (by decide) (dp_tup (dp_tup dp_nat)) (dp_tup (dp_tup dp_nat)) (a := fnd) (b := []) (stb_part _ _ _ _ (kt s6) rf5) ⟨e1, [], rfl, upd_same, .nil⟩ ?_
        rw [decide_eq_true hno]
        exact q _ (s15.trans s6)
      · rw [decide_eq_false (by omega)]
        obtain ⟨s, hs⟩ : ∃ s, told ws R = [s] := by
          cases htl : told ws R with
          | nil => exact absurd htl ht
          | cons s r =>
            rw [htl, List.length_cons] at h1
            have : r = [] := List.length_eq_zero_iff.mp (by omega)
            exact ⟨s, by rw [this]⟩
        rw [hs] at upd5
        have hsok : Sok ts s := told_ok W h0 s (by rw [hs]; exact List.mem_singleton.mpr rfl)
        have hm : s ∈ fnd := hh.mem (allSp_sok.mpr hsok) fun t ⟨kin2, c2, hk⟩ => hk.mpr (help_one W oka okb h0 hs clo' c2)
        cases upd5 with
        | cons r1 rr =>
          cases rr
          rename_i y
          refine iteF ⟨.ref ua, rfl, ua, _, 0, y, rfl, rfl, SqT.of hua, rfl, x, rfl, ?_⟩
          exact in_TR (R := NatsT) (encT encN) (by decide) (dp_tup dp_nat) r1 rf5 hm (q _ s15)
end
end Jr
set_option Elab.async false
set_option linter.all false
set_option maxRecDepth 100000
set_option maxHeartbeats 4000000
/-! The law's own defs: right. -/
namespace Jr
open PySem PySem.Spec PyProof.Rows L2
theorem cut_from {xs : List V} {j : Nat} : cutV xs (some (j : Int)) none = xs.drop j := by
  unfold cutV
  rw [HT.sIx_none, HT.sIx_nat]
  rcases Nat.le_total j xs.length with h | h
  · rw [Nat.min_eq_left h]
    exact List.take_of_length_le (by rw [List.length_drop]; exact Nat.le_refl _)
  · rw [Nat.min_eq_right h, List.drop_length, List.drop_of_length_le h, List.take_nil]
theorem cat_T {K : PySem.W.Frag} {α : Type} {R : Rp α} (sR : Stb R) {H : Hp} {x y : V} {as bs : List α} {Q : VK} (r : TupOf R H x as) (r' : TupOf R H y bs) (hz : as.length + bs.length ≤ sizeLine) (q : ∀ v H', Same H H' → TupOf R H' v (as ++ bs) → Q v H') : rCatA K x y H Q := by
  obtain ⟨a, xs, rfl, ha, pa⟩ := r
  obtain ⟨b, ys, rfl, hb, pb⟩ := r'
  refine ⟨a, b, xs, ys, rfl, rfl, SqT.of ha, SqT.of hb, by rw [pd_len pa, pd_len pb]; exact hz, fun h => ?_, fun _ h => ?_, fun _ _ p hp => ?_⟩
  · subst h
    cases pa
    exact q _ _ (Same.refl _) ⟨b, ys, rfl, hb, pb⟩
  · subst h
    cases pb
    rw [List.append_nil] at q
    exact q _ _ (Same.refl _) ⟨a, xs, rfl, ha, pa⟩
  · have s := sm_new (H := H) (o := .tup (xs ++ ys)) hp
    exact q _ _ s ⟨p, _, rfl, upd_same, pd_app (stb_pairs sR (kt s) pa) (stb_pairs sR (kt s) pb)⟩
theorem drop_len {α : Type} {l : List α} {k : Nat} (h : k < l.length) : (l.take k ++ l.drop (k + 1)).length + 1 = l.length := by
  rw [List.length_append, List.length_take, List.length_drop]; omega
section
variable {P : Program} {w : World} {K : PySem.W.Frag} {mg : Str → Option Value} {base : Heap} {f : Addr} {fd : FuncData} {C : Addr}
def sp_right (C : Addr) : Sp := fun vs H Q _ => ∃ l v gv a b ts Pa Pb, ∃ R : Nat, vs = [.ref l, v, gv, a, b, .int (R : Int)] ∧ LandR l C H v a b ts Pa Pb ∧ PartT H gv ts ∧ prod ts ≤ 400 ∧ 0 < R ∧ R ≤ 40 ∧ far ts Pa Pb ≤ 22 ∧ ∀ H', Pw l H H' → Q (.bl true) H'
theorem k_right (T : Tx mg) (W0 : Kn P w K mg base "stones" 10 ["world", "one", "other", "reach"] (sp_stones C)) (W1 : Kn P w K mg base "_law_bring" 9 ["_law_land", "_law_low", "_law_high", "_law_points", "_law_wide"] (sp_bring C))
    (W2 : Kn P w K mg base "_law_helps_right" 9 ["_law_land", "_law_grove", "_law_low", "_law_high", "_law_wide", "_law_told"] (sp_helps_right C)) (W3 : Kn P w K mg base "_law_no_fewer" 10 ["_law_purse_here", "_law_land", "_law_grove", "_law_low", "_law_high", "_law_wide", "_law_count"] (sp_no_fewer C))
    (F : FnP K "_law_right" s__law_right f fd) (g : mg "_law_right" = some (.ref f)) : Kn P w K mg base "_law_right" 11 ["_law_purse_here", "_law_land", "_law_grove", "_law_low", "_law_high", "_law_wide"] (sp_right C) := by
  refine kn_of F g (F.ok c__law_right (fun vs H Q E h => ?_) (fun cdv A outer s H vs Q E hr h => ?_)) (fun _ _ _ _ _ _ us hl => match us, hl with | [_, _, _, _, _, _], _ => rfl)
  · obtain ⟨l, v, gv, a, b, ts, Pa, Pb, R, rfl, _⟩ := h
    rfl
  · obtain ⟨l, v, gv, a, b, ts, Pa, Pb, R, rfl, L, hg, hprod, h0, hR, hfar, q⟩ := h
    have nd := c__law_right.nd
    refine ⟨_, PSs.nox (pss_cons (ps_par (i := 6) (j := 7) rfl nd rfl rfl (by decide) rfl rfl (pa_cons (pe_kn W0 hr (pa_cons (pv 1) (pa_cons (pv 3) (pa_cons (pv 4) (pa_cons (pv 5) pa_nil))))) (pa_cons (pe_kn W0 hr (pa_cons (pv 1) (pa_cons (pv 3) (pa_cons (pv 4) (pa_cons (pe_op op_add (pv 5) pe_int) pa_nil))))) pa_nil)) (by rfl))
      (pss_cons (ps_if (PW.pt (pw_or (pt_not (pt_val (pe_isi T (pv 6) T.tuple boot_tuple))) (pw_or1 (pt_not (pt_val (pe_isi T (pv 7) T.tuple boot_tuple)))))) (pss_one (ps_ret pe_bl)) pss_nil)
      (pss_cons (ps_if (pt_cmpR op_isnot_bl (pe_kn W1 hr (pa_cons (pv 1) (pa_cons (pv 3) (pa_cons (pv 4) (pa_cons (pv 6) (pa_cons (pv 5) pa_nil)))))) pe_bl (nomark _)) (pss_one (ps_ret pe_bl)) pss_nil)
      (pss_cons (ps_if (pt_not (pt_val (pe_kn W2 hr (pa_cons (pv 1) (pa_cons (pv 2) (pa_cons (pv 3) (pa_cons (pv 4) (pa_cons (pv 5) (pa_cons (pv 6) pa_nil))))))))) (pss_one (ps_ret pe_bl)) pss_nil)
      (pss_cons (ps_forG (g := gName 8) PassesOwn.never (pi_range1 (by rfl) T.range (pa_cons (pe_len T (pv 6)) pa_nil)) (pg_name (i := 8) nd rfl (.inl rfl) (.inl rfl))
        (pss_one (ps_if (pt_cmpR op_isnot_bl (pe_kn W1 hr (pa_cons (pv 1) (pa_cons (pv 3) (pa_cons (pv 4) (pa_cons (pe_op op_catA (pe_slice sl_tup (pv 6) po_none (po_some (pv 8))) (pe_slice sl_tup (pv 6) (po_some (pe_op op_add (pv 8) pe_int)) po_none)) (pa_cons (pv 5) pa_nil)))))) pe_bl (nomark _)) (pss_one (ps_ret pe_bl)) pss_nil)))
      (pss_cons (ps_set (i := 9) nd rfl (.inl rfl) (pe_or (pe_cmpR (op_eqR (hu64 hr)) (pv 6) (pe_tup pa_nil) rfl) (pe_one (pe_kn W3 hr (pa_cons (pv 0) (pa_cons (pv 1) (pa_cons (pv 2) (pa_cons (pv 3) (pa_cons (pv 4) (pa_cons (pv 5) (pa_cons (pe_len T (pv 6)) pa_nil)))))))))))
      (pss_cons (ps_if (pt_not (pt_val (pv 9))) (pss_one (ps_ret pe_bl)) pss_nil)
      (pss_cons (ps_set (i := 10) nd rfl (.inl rfl) (pe_kn W0 hr (pa_cons (pv 1) (pa_cons (pv 4) (pa_cons (pv 3) (pa_cons (pv 5) pa_nil))))))
      (pss_one (ps_ret (pe_and (pe_isi T (pv 10) T.tuple boot_tuple) (pe_one (pe_chain op_le op_eq (pe_len T (pv 7)) (pe_len T (pv 6)) (pe_len T (pv 10))))))))))))))), ?_⟩
    -- told, later
    refine ⟨v, rfl, a, rfl, b, rfl, _, rfl, v, a, b, ts, Pa, Pb, R, rfl, L.w.r, L.pa, L.pb, L.oka, L.okb, h0, by omega, fun tv H1 st s1 rt ⟨ws, W, est⟩ _ => ?_⟩
    subst est
    replace L := L.same s1
    refine ⟨v, rfl, a, rfl, b, rfl, _, rfl, _, _, rfl, rfl, v, a, b, ts, Pa, Pb, R + 1, rfl, L.w.r, L.pa, L.pb, L.oka, L.okb, by omega, by omega, fun lv H2 st2 s2 rl ⟨ws2, W2', est2⟩ _ => ?_⟩
    subst est2
    replace L := L.same s2
    have s12 := s1.trans s2
    have hF : ∀ {w : List (List Nat)} {r : Nat} {A B : Prt}, Wlk ts A B (far ts A B) w → (told w r).length = (far ts A B - 1) / r := fun {w r A B} W => by
      rw [told_len, W.len]
      congr 1
    have hlt := hF (r := R) W
    have hll := hF (r := R + 1) W2'
    have htl : (told ws R).length ≤ 22 := by rw [hlt]; exact Nat.le_trans (Nat.div_le_self _ _) (by omega)
    have rt2 := stb_part _ _ _ _ (kt s2) rt
    obtain ⟨ta, txs, rfl, hta, tpd⟩ := rt2
    obtain ⟨la, lxs, rfl, hla, lpd⟩ := rl
    have htold : SpotsT H2 (.ref ta) (told ws R) := ⟨ta, txs, rfl, hta, tpd⟩
    refine ⟨_, _, rfl, ?_⟩
    refine ⟨.ref ta, rfl, isi_tup hta ⟨true, rfl, ?_⟩⟩
    refine iteF ⟨.ref la, rfl, isi_tup hla ⟨true, rfl, ?_⟩⟩
    refine iteF ?_
    -- told brings them together
    refine ⟨v, rfl, a, rfl, b, rfl, _, rfl, _, rfl, tnil_in ?_⟩
    refine bring_yes L W (.inl htold) htl h0 (by omega) fun H3 s3 => ?_
    refine ⟨true, true, rfl, rfl, _, rfl, iteF ?_⟩
    replace L := L.same s3
    -- helps is right
    refine ⟨v, rfl, gv, rfl, a, rfl, b, rfl, _, rfl, _, rfl, v, gv, a, b, .ref ta, ts, Pa, Pb, ws, R, rfl, L.w.r, stb_part _ _ _ _ (kt (s12.trans s3)) hg, L.pa, L.pb, L.oka, L.okb, hprod, h0, by omega, W, stb_part _ _ _ _ (kt s3) htold, hlt, fun H4 s4 => ?_⟩
    refine ⟨true, rfl, iteF ?_⟩
    replace L := L.same s4
    have s34 := s3.trans s4
    have hta4 := s34 _ _ hta
    have tpd4 := stb_pairs stb_nats (kt s34) tpd
    -- every stone is of use
    refine ⟨.ref ta, rfl, len_tup hta4 (pd_len tpd4) ⟨((told ws R).length : Int), rfl, by omega, by omega, ?_⟩⟩
    rw [Int.toNat_natCast]
    refine for_it walk_range (fun i σ H' => Same H4 H' ∧ ∃ x8 x9 x10, σ = [some (.ref l), some v, some gv, some a, some b, some (.int (R : Int)), some (.ref ta), some (.ref la), x8, x9, x10]) ⟨Same.refl _, _, _, _, rfl⟩ (fun _ _ _ _ _ => trivial) ?_ ?_
    · rintro i x σ H5 H5' hi ⟨s5, x8, x9, x10, rfl⟩ ⟨rfl, rfl⟩
      have hta5 := s5 _ _ hta4
      have hxl : txs.length = (told ws R).length := pd_len tpd4
      refine ⟨v, rfl, a, rfl, b, rfl, .ref ta, rfl, _, rfl, (0 + (i : Int)), rfl, ?_⟩
      refine ⟨ta, txs, rfl, SqT.of hta5, fun h => ?_, fun p1 hp1 => ?_⟩
      · have h2 := h.2
        rw [Int.zero_add, HT.sIx_nat] at h2
        omega
      have s6 : Same H5' (upd H5' p1 (.tup (cutV txs none (some (0 + (i : Int)))))) := sm_new hp1
      have e6 : upd H5' p1 (.tup (cutV txs none (some (0 + (i : Int))))) p1 = some (.tup (cutV txs none (some (0 + (i : Int))))) := upd_same
      generalize upd H5' p1 (.tup (cutV txs none (some (0 + (i : Int))))) = H6 at s6 e6
      rw [Int.zero_add, cut_to] at e6
      refine ⟨.ref ta, rfl, _, rfl, _, _, rfl, rfl, (0 + (i : Int) + 1), rfl, ?_⟩
      have ei : (0 + (i : Int) + 1) = ((i + 1 : Nat) : Int) := by omega
      rw [ei]
      refine ⟨ta, txs, rfl, SqT.of (s6 _ _ hta5), fun h => ?_, fun p2 hp2 => ?_⟩
      · have h2 := h.1
        rw [HT.sIx_nat] at h2
        omega
      have s7 : Same H6 (upd H6 p2 (.tup (cutV txs (some ((i + 1 : Nat) : Int)) none))) := sm_new hp2
      have e7 : upd H6 p2 (.tup (cutV txs (some ((i + 1 : Nat) : Int)) none)) p2 = some (.tup (cutV txs (some ((i + 1 : Nat) : Int)) none)) := upd_same
      generalize upd H6 p2 (.tup (cutV txs (some ((i + 1 : Nat) : Int)) none)) = H7 at s7 e7
      rw [cut_from] at e7
      have s57 := s5.trans (s6.trans s7)
      have tpd7 := stb_pairs stb_nats (kt s57) tpd4
      have hdl := drop_len hi
      refine cat_T stb_nats (as := (told ws R).take i) (bs := (told ws R).drop (i + 1)) ⟨p1, _, rfl, s7 _ _ e6, pd_take i tpd7⟩ ⟨p2, _, rfl, e7, pd_drop (i + 1) tpd7⟩ (Nat.le_trans (by rw [← List.length_append]; show _ ≤ 22; omega) (show 22 ≤ sizeLine by decide)) fun cv H8 s8 rc => ?_
      refine ⟨_, rfl, tnil_in ?_⟩
      refine bring_no (L.same (s57.trans s8)) (.inl rc) (fun s hs => ?_) (by omega) (by omega) (by omega) fun H9 s9 => ?_
      · rcases List.mem_append.mp hs with h | h
        · exact told_ok W h0 s (List.take_subset _ _ h)
        · exact told_ok W h0 s (List.drop_subset _ _ h)
      · exact ⟨false, false, rfl, rfl, _, rfl, iteF ⟨(s57.trans s8).trans s9, _, _, _, rfl⟩⟩
    · rintro σ H5 ⟨s5, x8, x9, x10, rfl⟩
      replace L := L.same s5
      have s25 := s34.trans s5
      have s05 := s12.trans s25
      -- no fewer
      refine ⟨.ref ta, rfl, by show 0 ≤ sizeLine; exact Nat.zero_le _, fun e0 he0 => ?_⟩
      have s6 : Same H5 (upd H5 e0 (.tup [])) := sm_new he0
      have ee0 : upd H5 e0 (.tup []) e0 = some (.tup []) := upd_same
      generalize upd H5 e0 (.tup []) = H6 at s6 ee0
      have ht6 : SpotsT H6 (.ref ta) (told ws R) := stb_part _ _ _ _ (kt (s25.trans s6)) htold
      refine eq_R (R := SpotsT) (S := SpotsT) (encT (encT encN)) (by decide) (dp_tup (dp_tup dp_nat)) (dp_tup (dp_tup dp_nat)) (a := told ws R) (b := []) ht6 ⟨e0, _, rfl, ee0, .nil⟩ ⟨_, rfl, ?_⟩
      by_cases ht : told ws R = []
      · rw [decide_eq_true ht]
        refine iteT ?_
        have p6 : Pw l H5 H6 := Pw.same L.pur s6
        have L6 := L.pw p6
        refine ⟨_, rfl, true, rfl, iteF ?_⟩
        refine ⟨v, rfl, b, rfl, a, rfl, _, rfl, v, b, a, ts, Pb, Pa, R, rfl, L6.w.r, L6.pb, L6.pa, L6.okb, L6.oka, h0, by omega, fun uv H7 st3 s7 ru ⟨ws3, W3', est3⟩ _ => ?_⟩
        subst est3
        have hlu := hF (r := R) W3'
        rw [far_comm L6.okb L6.oka] at hlu
        obtain ⟨ua, uxs, rfl, hua, updu⟩ := ru
        refine ⟨.ref ua, rfl, isi_tup hua ⟨true, rfl, iteT ?_⟩⟩
        have p57 := p6.trans (Pw.same p6.pur s7)
        have k57 := p57.kt L.pur
        have hla7 := k57 _ _ (s25 _ _ hla)
        have hta7 := k57 _ _ (s25 _ _ hta)
        refine ⟨.ref la, rfl, len_tup hla7 (pd_len lpd) ⟨.ref ta, rfl, len_tup hta7 (pd_len tpd) ⟨_, _, rfl, rfl, _, rfl, ?_⟩⟩⟩
        rw [decide_eq_true (by rw [hll, hlt]; exact Int.ofNat_le.mpr (Nat.div_le_div_left (by omega) h0))]
        refine iteT ⟨.ref ua, rfl, len_tup hua (pd_len updu) ⟨rfl, ?_⟩⟩
        rw [decide_eq_true (by rw [hlt, hlu])]
        exact q H7 ⟨(Jr.Same.ex s05).trans p57.ex, p57.pur⟩
      · rw [decide_eq_false ht]
        refine iteF ?_
        have L5 := L.same s6
        refine ⟨.ref l, rfl, v, rfl, gv, rfl, a, rfl, b, rfl, _, rfl, .ref ta, rfl, len_tup (s6 _ _ (s25 _ _ hta)) (pd_len tpd) ?_⟩
        refine tnil_in ⟨l, v, gv, a, b, ts, Pa, Pb, R, (told ws R).length, rfl, L5, stb_part _ _ _ _ (kt (s05.trans s6)) hg, hprod, by omega, hlt, ?_, htl, fun H8 p8 => ?_⟩
        · exact Nat.pos_of_ne_zero fun e => ht (List.length_eq_zero_iff.mp e)
        · have p6 : Pw l H5 H8 := (Pw.same L.pur s6).trans p8
          have L6 := L.pw p6
          refine ⟨_, rfl, true, rfl, iteF ?_⟩
          refine ⟨v, rfl, b, rfl, a, rfl, _, rfl, v, b, a, ts, Pb, Pa, R, rfl, L6.w.r, L6.pb, L6.pa, L6.okb, L6.oka, h0, by omega, fun uv H7 st3 s7 ru ⟨ws3, W3', est3⟩ _ => ?_⟩
          subst est3
          have hlu := hF (r := R) W3'
          rw [far_comm L6.okb L6.oka] at hlu
          obtain ⟨ua, uxs, rfl, hua, updu⟩ := ru
          refine ⟨.ref ua, rfl, isi_tup hua ⟨true, rfl, iteT ?_⟩⟩
          have p57 := p6.trans (Pw.same p6.pur s7)
          have k57 := p57.kt L.pur
          have hla7 := k57 _ _ (s25 _ _ hla)
          have hta7 := k57 _ _ (s25 _ _ hta)
          refine ⟨.ref la, rfl, len_tup hla7 (pd_len lpd) ⟨.ref ta, rfl, len_tup hta7 (pd_len tpd) ⟨_, _, rfl, rfl, _, rfl, ?_⟩⟩⟩
          rw [decide_eq_true (by rw [hll, hlt]; exact Int.ofNat_le.mpr (Nat.div_le_div_left (by omega) h0))]
          refine iteT ⟨.ref ua, rfl, len_tup hua (pd_len updu) ⟨rfl, ?_⟩⟩
          rw [decide_eq_true (by rw [hlt, hlu])]
          exact q H7 ⟨(Jr.Same.ex s05).trans p57.ex, p57.pur⟩
end
end Jr
set_option Elab.async false
set_option linter.all false
set_option maxRecDepth 100000
set_option maxHeartbeats 4000000
/-! The law. -/
namespace Jr
open PySem PySem.Spec PyProof.Rows L2
theorem sum_prod : ∀ ts : Trs, (ts.map List.length).sum + 1 ≤ prod ts
  | [] => Nat.le_refl _
  | t :: ts => by
    have ih := sum_prod ts
    have h1 : prod (t :: ts) = (t.length + 1) * prod ts := rfl
    rw [h1, List.map_cons, List.sum_cons, Nat.add_mul, Nat.one_mul]
    have h2 : t.length ≤ t.length * prod ts := Nat.le_mul_of_pos_right _ (by omega)
    omega
theorem far_le : ∀ {ts : Trs} {P Q : Prt}, Pok ts P → Pok ts Q → far ts P Q ≤ 2 * (ts.map List.length).sum
  | [], [], [], _, _ => Nat.zero_le _
  | t :: ts, a :: P, b :: Q, ⟨h1, h2⟩, ⟨k1, k2⟩ => by
    have ih := far_le h2 k2
    show gap t a b + far ts P Q ≤ _
    obtain ⟨x, hx⟩ := List.exists_mem_of_ne_nil _ h1.2.1
    obtain ⟨y, hy⟩ := List.exists_mem_of_ne_nil _ k1.2.1
    have h3 := gap_le (t := t) hx hy
    have h4 := dist_le_add t x y
    have h5 := h1.2.2.1 x hx
    have h6 := k1.2.2.1 y hy
    rw [List.map_cons, List.sum_cons]
    omega
/-- a statement with what stands behind it -/
def tMid (t : TS) : TS := fun D σ H => ∃ M : L2.St → Hp → Prop, (∀ σ' H', M σ' H' → D.nx σ' H') ∧ ∀ N : L2.St → Hp → Prop, (∀ σ' H', M σ' H' → N σ' H') → t { D with nx := N } σ H
theorem ps_mid {X : Cx} {s : Stmt} {t : TS} (h : PS X s t) : PS X s (tMid t) := ⟨fun pins s σ H D I hw => h.run pins s σ H D I (let ⟨_, h1, h2⟩ := hw; h2 D.nx h1)⟩
section
variable {P : Program} {w : World} {K : PySem.W.Frag} {mg : Str → Option Value} {base : Heap} {f : Addr} {fd : FuncData} {C : Addr}
structure MkW (P : Program) (w : World) (K : PySem.W.Frag) (mg : Str → Option Value) (base : Heap) (C : Addr) : Prop where
  ex : ∃ f fd, mg "World" = some (.ref C) ∧ Mk K C f ∧ Binds K fd ["self", "trees"] [] ∧ FnOk P w K mg base CX0 4 f fd ["self", "trees"] (sp_init2 C)
theorem pe_world {X : Cx} {j : Nat} {p pos : Pos} {e : Expr} {es : List Expr} {t : TA} (D : MkW X.prog X.w X.K X.mg X.base C) (hr : Room j X.A) (ha : PA X (e :: es) t) (hk : 5 ≤ j := by decide) (hg : Gl X "World" := by rfl)
    (he : starEach (e :: es) X.env = (false, eval e X.env) :: starEach es X.env := by rfl) (hpl : (backTo pos (starEach es X.env)).any (·.1) = false := by rfl) : PE X (.Call (.Name "World" p) (e :: es) [] pos) (tMake C (sp_init2 C) [] E0 t) := by
  obtain ⟨f, fd, hm, M, hb, F⟩ := D.ex
  exact pe_make M F (hr.mono hk) hg hm hb .nil pass0 ha (by decide) he hpl
def sp_law (K : PySem.W.Frag) : Sp := fun vs H Q _ => ∃ a, ∃ ns : List Int, vs = [.ref a] ∧ SqL K H a (ns.map V.int) ∧ ∀ H', Q (.bl true) H'
theorem ok_law (T : Tx mg) (M : MkW P w K mg base C) (W0 : Kn P w K mg base "_law_cell" 1 ["_law_script", "_law_k"] (sp_cell K)) (W1 : Kn P w K mg base "_law_purse" 1 ["_law_cell_here"] sp_purse) (W2 : Kn P w K mg base "_law_wood" 2 ["_law_purse_here", "_law_most"] sp_wood)
    (W3 : Kn P w K mg base "_law_pick" 1 ["_law_purse_here", "_law_count"] sp_pick) (W4 : Kn P w K mg base "_law_piece" 3 ["_law_purse_here", "_law_grove"] sp_piece) (W5 : Kn P w K mg base "_law_point" 2 ["_law_purse_here", "_law_grove"] sp_point)
    (W6 : Kn P w K mg base "as_part" 5 ["world", "spot"] (sp_as_part C)) (W7 : Kn P w K mg base "_law_right" 11 ["_law_purse_here", "_law_land", "_law_grove", "_law_low", "_law_high", "_law_wide"] (sp_right C))
    (F : FnP K "law" s_law f fd) : FnOk P w K mg base CX0 12 f fd ["_law_script"] (sp_law K) := by
  refine F.ok c_law (fun vs H Q E h => ?_) (fun cdv A outer s H vs Q E hr h => ?_)
  · obtain ⟨a, ns, rfl, _⟩ := h
    rfl
  · obtain ⟨a, ns, rfl, hs, q⟩ := h
    have nd := c_law.nd
    have hcalm := hr.hd
    refine ⟨_, PSs.nox (pss_cons (ps_forG (g := gName 1) PassesOwn.never (pi_range1 (by rfl) T.range (pa_cons (pe_callB (call_max2 rfl) (by rfl) T.max boot_max (pa_cons pe_int (pa_cons (pe_callB (call_min2 rfl) (by rfl) T.min boot_min (pa_cons (pe_len T (pv 0)) (pa_cons pe_int pa_nil))) pa_nil))) pa_nil)) (pg_name (i := 1) nd rfl (.inl rfl) (.inl rfl))
        (pss_cons (ps_set (i := 2) nd rfl (.inl rfl) (pe_kn W1 hr (pa_cons (pe_kn W0 hr (pa_cons (pv 0) (pa_cons (pv 1) pa_nil))) pa_nil)))
        (pss_cons (ps_set (i := 3) nd rfl (.inl rfl) (pe_tup (pa_cons (pe_kn W2 hr (pa_cons (pv 2) (pa_cons pe_int pa_nil))) pa_nil)))
        (pss_cons (ps_mid (ps_if (pt_cmpR op_gt (pe_kn W3 hr (pa_cons (pv 2) (pa_cons pe_int pa_nil))) pe_int (nomark _))
          (pss_cons (ps_set (i := 4) nd rfl (.inl rfl) (pe_kn W2 hr (pa_cons (pv 2) (pa_cons pe_int pa_nil))))
          (pss_one (ps_set (i := 3) nd rfl (.inl rfl) (pe_tup (pa_cons (pv 4) (pa_cons (pe_kn W2 hr (pa_cons (pv 2) (pa_cons (pe_op op_fdivNN pe_int (pe_op op_add (pe_len T (pv 4)) pe_int)) pa_nil))) pa_nil)))))) pss_nil))
        (pss_cons (ps_par3 (i := 5) (j := 6) (l := 7) rfl nd rfl rfl rfl (by decide) (by decide) (by decide) rfl rfl rfl (pa_cons (pe_world M hr (pa_cons (pv 3) pa_nil)) (pa_cons (pe_kn W4 hr (pa_cons (pv 2) (pa_cons (pv 3) pa_nil))) (pa_cons (pe_kn W4 hr (pa_cons (pv 2) (pa_cons (pv 3) pa_nil))) pa_nil))) (by rfl))
        (pss_cons (ps_mid (ps_if (pt_cmpR op_gt (pe_kn W3 hr (pa_cons (pv 2) (pa_cons pe_int pa_nil))) pe_int (nomark _))
          (pss_one (ps_par (i := 6) (j := 7) rfl nd rfl rfl (by decide) rfl rfl (pa_cons (pe_kn W6 hr (pa_cons (pv 5) (pa_cons (pe_kn W5 hr (pa_cons (pv 2) (pa_cons (pv 3) pa_nil))) pa_nil))) (pa_cons (pe_kn W6 hr (pa_cons (pv 5) (pa_cons (pe_kn W5 hr (pa_cons (pv 2) (pa_cons (pv 3) pa_nil))) pa_nil))) pa_nil)) (by rfl))) pss_nil))
        (pss_one (ps_forG (g := gName 8) PassesOwn.never (pi_list (pe_lst (pa_cons (pe_op op_add pe_int (pe_kn W3 hr (pa_cons (pv 2) (pa_cons pe_int pa_nil)))) (pa_cons (pe_op op_add pe_int (pe_kn W3 hr (pa_cons (pv 2) (pa_cons pe_int pa_nil)))) pa_nil)))) (pg_name (i := 8) nd rfl (.inl rfl) (.inl rfl))
          (pss_one (ps_if (pt_not (pt_val (pe_kn W7 hr (pa_cons (pv 2) (pa_cons (pv 5) (pa_cons (pv 3) (pa_cons (pv 6) (pa_cons (pv 7) (pa_cons (pv 8) pa_nil))))))))) (pss_one (ps_ret pe_bl)) pss_nil))))))))))
      (pss_one (ps_ret pe_bl))), ?_⟩
    refine ⟨.ref a, rfl, ⟨⟨a, _, rfl, .inl hs, ?_⟩⟩⟩
    refine ⟨_, _, rfl, _, _, rfl, _, rfl, ?_, ?_, ?_⟩
    · split <;> split at * <;> omega
    · split <;> split at * <;> omega
    generalize hn : (Int.toNat _) = n
    have hn4 : n ≤ 4 := by rw [← hn]; split <;> split at * <;> omega
    refine for_it walk_range (fun i σ H' => Same H H' ∧ ∃ x1 x2 x3 x4 x5 x6 x7 x8, σ = [some (.ref a), x1, x2, x3, x4, x5, x6, x7, x8]) ⟨Same.refl _, _, _, _, _, _, _, _, _, rfl⟩ (fun _ _ _ _ _ => trivial) ?_ ?_
    · rintro i x σ H1 H1' hi ⟨s1, x1, x2, x3, x4, x5, x6, x7, x8, rfl⟩ ⟨rfl, rfl⟩
      refine ⟨.ref a, rfl, _, rfl, a, ns, i, (by show [V.ref a, V.int (0 + (i : Int))] = _; rw [Int.zero_add]), hs.ext s1, by omega, fun c H2 s2 => ⟨c, rfl, fun l H3 s3 n3 pur3 => ?_⟩⟩
      have out : ∀ H', Pw l H3 H' → Same H H' := fun H' p c o h => p.ex c o (ne_of_none (s2 _ _ (s1 _ _ h)) n3) (s3 _ _ (s2 _ _ (s1 _ _ h)))
      -- the grove
      refine ⟨.ref l, rfl, l, 12, rfl, by omega, by omega, pur3, fun wv t H4 p4 rt okt ht12 => ⟨by show 1 ≤ sizeLine; decide, fun gT hgT => ?_⟩⟩
      have s5 : Same H4 (upd H4 gT (.tup [wv])) := sm_new hgT
      have e5 : upd H4 gT (.tup [wv]) gT = some (.tup [wv]) := upd_same
      generalize upd H4 gT (.tup [wv]) = H5 at s5 e5
      have p5 := p4.trans (Pw.same p4.pur s5)
      have g5 : PartT H5 (.ref gT) [t] := ⟨gT, _, rfl, e5, .cons (stb_nats _ _ _ _ (kt s5) rt) .nil⟩
      refine ⟨fun σ' H' => ∃ gv ts y1 y4, σ' = [some (.ref a), y1, some (.ref l), some gv, y4, x5, x6, x7, x8] ∧ Pw l H3 H' ∧ PartT H' gv ts ∧ (∀ t ∈ ts, TreeOk t) ∧ 1 ≤ ts.length ∧ ts.length ≤ 4 ∧ prod ts ≤ 12, ?_, fun N hN => ?_⟩
      · rintro σ' H6 ⟨gv, ts, y1, y4, rfl, p6, rg, okts, h1, h4, hprod⟩
        have hsum := sum_prod ts
        -- the land
        refine ⟨gv, rfl, fun x dx hx hdx hne => ?_⟩
        have s6 : Same H6 (upd (upd H6 dx (.own x)) x (.ins C dx [])) := fun c o h => by rw [upd_ne (ne_of_none h hx), upd_ne (ne_of_none h hdx)]; exact h
        have ex6 : upd (upd H6 dx (.own x)) x (.ins C dx []) x = some (.ins C dx []) := upd_same
        refine ⟨x, gv, dx, ts, rfl, ex6, stb_part _ _ _ _ (kt s6) rg, okts, h1, h4, fun H7 k7 w7 wp7 => ⟨rfl, ?_⟩⟩
        have s67 : Same H6 H7 := fun c o h => k7 c o (ne_of_none h hx) (s6 _ _ h)
        have hlx : l ≠ x := fun e => by
          obtain ⟨u1, u2, u3, h⟩ := p6.pur
          rw [e, hx] at h; cases h
        have wP : WorldP l C H7 (.ref x) ts := fun H'' ex => by
          obtain ⟨u1, u2, u3, h⟩ := p6.pur
          exact wp7 l _ H'' hlx (s6 _ _ h) ex
        have p7 := p6.trans (Pw.same p6.pur s67)
        have rg7 := stb_part _ _ _ _ (kt s67) rg
        refine ⟨.ref l, rfl, gv, rfl, l, gv, ts, rfl, p7.pur, rg7, okts, h4, fun lo Pa H8 p8 ra oka => ?_⟩
        have rg8 := stb_part _ _ _ _ (p8.kt p7.pur) rg7
        refine ⟨.ref l, rfl, gv, rfl, l, gv, ts, rfl, p8.pur, rg8, okts, h4, fun hi' Pb H9 p9 rb okb => ?_⟩
        have rg9 := stb_part _ _ _ _ (p9.kt p8.pur) rg8
        have ra9 := stb_part _ _ _ _ (p9.kt p8.pur) ra
        refine ⟨_, _, _, rfl, ?_⟩
        have p39 := (p7.trans p8).trans p9
        have L9 : LandR l C H9 (.ref x) lo hi' ts Pa Pb := ⟨wP.ex (p8.trans p9).ex, ra9, rb, oka, okb, p9.pur⟩
        refine ⟨fun σ' H' => ∃ lo hi Pa Pb y1 y4, σ' = [some (.ref a), y1, some (.ref l), some gv, y4, some (.ref x), some lo, some hi, x8] ∧ Pw l H3 H' ∧ LandR l C H' (.ref x) lo hi ts Pa Pb ∧ PartT H' gv ts, ?_, fun N hN => ?_⟩
        · rintro σ' H10 ⟨lo, hi', Pa, Pb, y1, y4, rfl, p10, L, rg10⟩
          refine ⟨.ref l, rfl, l, 2, rfl, by omega, by omega, p10.pur, fun r1 H11 p11 hr1 => ⟨_, _, rfl, rfl, ?_⟩⟩
          refine ⟨.ref l, rfl, l, 4, rfl, by omega, by omega, p11.pur, fun r2 H12 p12 hr2 => ⟨_, _, rfl, rfl, by show 2 ≤ sizeLine; decide, fun wl hwl => ?_⟩⟩
          have hwl' : wl ≠ l := fun e => by
            obtain ⟨u1, u2, u3, h⟩ := p12.pur
            rw [← e, hwl] at h; cases h
          have s13 : Same H12 (upd H12 wl (.lst [.int (1 + (r1 : Int)), .int (1 + (r2 : Int))])) := sm_new hwl
          have e13 : upd H12 wl (.lst [.int (1 + (r1 : Int)), .int (1 + (r2 : Int))]) wl = some (.lst [.int (1 + (r1 : Int)), .int (1 + (r2 : Int))]) := upd_same
          generalize upd H12 wl (.lst [.int (1 + (r1 : Int)), .int (1 + (r2 : Int))]) = H13 at s13 e13
          have p1013 := (p11.trans p12).trans (Pw.same p12.pur s13)
          have L13 := L.pw p1013
          have rg13 := stb_part _ _ _ _ (p1013.kt p10.pur) rg10
          have hfar : far ts Pa Pb ≤ 22 := Nat.le_trans (far_le L.oka L.okb) (by omega)
          refine ⟨wl, rfl, ⟨_, SqL.of e13⟩, ?_⟩
          refine for_lst (H0 := H13) (R := NatR) (as := [1 + r1, 1 + r2]) (Rl := fun H' => Pw l H13 H') (fun H' v a _ r => r) (fun H' p' => p'.ex _ _ hwl' e13)
            (.cons (congrArg V.int (Int.natCast_add 1 r1).symm) (.cons (congrArg V.int (Int.natCast_add 1 r2).symm) .nil))
            (fun j σ' H' => Pw l H13 H' ∧ ∃ y1 y4 y8, σ' = [some (.ref a), y1, some (.ref l), some gv, y4, some (.ref x), some lo, some hi', y8]) ⟨Pw.refl L13.pur, _, _, _, rfl⟩ (fun j σ' H' h => h.1) ?_ ?_
          · rintro j b vb σ' H14 hb ⟨p14, y1, y4, y8, rfl⟩ rb
            have hvb : vb = .int (b : Int) := rb
            subst hvb
            have hb5 : 0 < b ∧ b ≤ 40 := by
              have := List.mem_of_getElem? hb
              simp only [List.mem_cons, List.not_mem_nil, or_false] at this
              omega
            refine ⟨.ref l, rfl, .ref x, rfl, gv, rfl, lo, rfl, hi', rfl, _, rfl, l, .ref x, gv, lo, hi', ts, Pa, Pb, b, rfl, L13.pw p14, stb_part _ _ _ _ (p14.kt L13.pur) rg13, by omega, hb5.1, hb5.2, hfar, fun H15 p15 => ⟨true, rfl, iteF ⟨p14.trans p15, _, _, _, rfl⟩⟩⟩
          · rintro σ' H14 ⟨p14, y1, y4, y8, rfl⟩
            exact ⟨out _ (p10.trans (p1013.trans p14)), _, _, _, _, _, _, _, _, rfl⟩
        · refine ⟨.ref l, rfl, l, 4, rfl, by omega, by omega, p9.pur, fun r H10 p10 hr10 => ⟨_, _, rfl, rfl, _, rfl, ?_⟩⟩
          have L10 := L9.pw p10
          have rg10 := stb_part _ _ _ _ (p10.kt p9.pur) rg9
          by_cases h0 : (0 : Int) < (r : Int)
          · rw [decide_eq_true h0]
            refine iteT ?_
            refine ⟨.ref x, rfl, .ref l, rfl, gv, rfl, l, gv, ts, rfl, p10.pur, rg10, okts, h4, fun sv sp H11 p11 rs hsok => ?_⟩
            have L11 := L10.pw p11
            refine ⟨.ref x, sv, ts, sp, rfl, L11.w.r, rs, hsok, fun lo2 H12 s12 rlo => ?_⟩
            have L12 := L11.same s12
            have p1012 := p11.trans (Pw.same p11.pur s12)
            have rg12 := stb_part _ _ _ _ (p1012.kt p10.pur) rg10
            refine ⟨.ref x, rfl, .ref l, rfl, gv, rfl, l, gv, ts, rfl, L12.pur, rg12, okts, h4, fun sv2 sp2 H13 p13 rs2 hsok2 => ?_⟩
            have L13 := L12.pw p13
            refine ⟨.ref x, sv2, ts, sp2, rfl, L13.w.r, rs2, hsok2, fun hi2 H14 s14 rhi => ?_⟩
            have p1214 := p13.trans (Pw.same p13.pur s14)
            have L14 := L13.same s14
            refine ⟨_, _, rfl, hN _ _ ⟨lo2, hi2, one sp, one sp2, _, _, rfl, ((p39.trans p10).trans p1012).trans p1214, ⟨L14.w, stb_part _ _ _ _ (p1214.kt L12.pur) rlo, rhi, hsok.pok, hsok2.pok, L14.pur⟩, stb_part _ _ _ _ (p1214.kt L12.pur) rg12⟩⟩
          · rw [decide_eq_false h0]
            exact iteF (hN _ _ ⟨lo, hi', Pa, Pb, _, _, rfl, p39.trans p10, L10, rg10⟩)
      · refine ⟨.ref l, rfl, l, 4, rfl, by omega, by omega, p5.pur, fun r H6 p6 hr6 => ⟨_, _, rfl, rfl, _, rfl, ?_⟩⟩
        have p36 := p5.trans p6
        by_cases h0 : (0 : Int) < (r : Int)
        · rw [decide_eq_true h0]
          refine iteT ?_
          refine ⟨.ref l, rfl, l, 4, rfl, by omega, by omega, p6.pur, fun fv t1 H7 p7 rt1 ok1 h14 => ?_⟩
          obtain ⟨fa', fxs, rfl, hfa, pdf⟩ := rt1
          refine ⟨.ref fa', rfl, .ref l, rfl, .ref fa', rfl, len_tup hfa (pd_len pdf) ⟨_, _, rfl, rfl, 12, t1.length + 1, rfl, rfl, ⟨by omega, by omega⟩, ?_⟩⟩
          have hd0 : 0 < 12 / (t1.length + 1) := Nat.div_pos (by omega) (by omega)
          refine tnil_in ⟨l, 12 / (t1.length + 1), rfl, hd0, Nat.div_le_self _ _, p7.pur, fun sv t2 H8 p8 rt2 ok2 h2 => ⟨by show 2 ≤ sizeLine; decide, fun g2 hg2 => ?_⟩⟩
          have s9 : Same H8 (upd H8 g2 (.tup [.ref fa', sv])) := sm_new hg2
          have e9 : upd H8 g2 (.tup [.ref fa', sv]) g2 = some (.tup [.ref fa', sv]) := upd_same
          generalize upd H8 g2 (.tup [.ref fa', sv]) = H9 at s9 e9
          have rt1 : NatsT H7 (.ref fa') t1 := ⟨fa', fxs, rfl, hfa, pdf⟩
          have rt19 := stb_nats _ _ _ _ ((p8.kt p7.pur).trans (kt s9)) rt1
          have rt29 := stb_nats _ _ _ _ (kt s9) rt2
          refine hN _ _ ⟨.ref g2, [t1, t2], _, _, rfl, ((p36.trans p7).trans p8).trans (Pw.same p8.pur s9), ⟨g2, _, rfl, e9, .cons rt19 (.cons rt29 .nil)⟩, fun t ht => ?_, by show 1 ≤ 2; decide, by show 2 ≤ 4; decide, ?_⟩
          · rcases List.mem_cons.mp ht with rfl | ht
            · exact ok1
            · rw [List.mem_singleton.mp ht]; exact ok2
          · show (t1.length + 1) * ((t2.length + 1) * 1) ≤ 12
            rw [Nat.mul_one]
            have h3 : (t2.length + 1) ≤ 12 / (t1.length + 1) := h2
            have h4 := (Nat.le_div_iff_mul_le (show 0 < t1.length + 1 by omega)).mp h3
            rw [Nat.mul_comm]
            exact h4
        · rw [decide_eq_false h0]
          refine iteF (hN _ _ ⟨.ref gT, [t], _, _, rfl, p36, stb_part _ _ _ _ (p6.kt p5.pur) g5, fun t' ht => by rw [List.mem_singleton.mp ht]; exact okt, by show 1 ≤ 1; decide, by show 1 ≤ 4; decide, ?_⟩)
          show (t.length + 1) * 1 ≤ 12
          omega
    · rintro σ H1 ⟨s1, x1, x2, x3, x4, x5, x6, x7, x8, rfl⟩
      exact q H1
end
end Jr
set_option Elab.async false
set_option linter.all false
set_option maxRecDepth 100000
set_option maxHeartbeats 0
namespace Jr
open PySem PySem.Spec PyProof.Rows L2
abbrev R : PySem.W.OpenRow := PySem.W.OpenLaw.row PySem.Challenge.rw_joinreach_k45_whole_no_fewer_stones
/-- what an isinstance(x, World) asks of the class -/
def exW (K : PySem.W.Frag) : Bool := decide (PySem.W.findIn K (.ref (He.ga K "World")) "__class__" = some (some (.builtin "object.__class__"))) && (decide (PySem.W.specialIn K (.builtin "object.__class__") "__get__" = some (some (.builtin "getset_descriptor.__get__"))) &&
  (decide (PySem.W.takesIn K (.builtin "object.__class__") = some true) && (decide (PySem.W.mroIn K (He.ga K "World") (.type "object") = some true) && decide (PySem.W.kitOne K (.ref (He.ga K "World")) (.ref (He.ga K "World")) = some true))))
abbrev hk : PySem.W.Hook := He.hookX 5 fa fn [] [] exW
def ob (s : PySem.W.SharedT) : He.AlX := He.obsX 5 fa fn [] [] exW (HandSHeadRun.getT s)
theorem ob_eq (s : PySem.W.SharedT) : ob s = hk.obs s.abs := He.obsX_eq (HandSHeadRun.getT_eq s)
def nm0 : List PySem.Str := ["REACH", "MOST_REACH", "MOST_SPOTS", "MOST_PLACES", "MOST_TREES", "MOST_NAMES", "ReachError", "LostError", "FullError", "NoTree", "NoPlace", "NoWorld", "NoPart", "NoSpot", "NoBook", "NoReach", "NoName", "TooMany", "is_whole", "is_within", "is_tree", "check_tree", "check_place", "downward", "steps_between", "way", "gaps", "hangs_together", "branch_around", "least_gap"]
def nm1 : List PySem.Str := ["World", "check_world", "makes_part", "makes_spot", "check_part", "check_spot", "check_two", "is_part", "as_part", "part_in", "part_far", "part_hull", "nearest", "SIGNS", "MOST_SIGNS", "is_name", "first_wrong", "check_book", "part_of", "check_reach", "closed", "together", "walked", "stones_for", "stones", "all_spots", "helps", "_law_cell", "_law_purse", "_law_pick"]
def nm2 : List PySem.Str := ["_law_wood", "_law_gaps", "_law_way_of", "_law_limb_by", "_law_piece", "_law_point", "_law_all_points", "_law_bring", "_law_no_fewer", "_law_helps_right", "_law_right"]
def loose : List PySem.Str := nm0 ++ nm1 ++ nm2
theorem run (w : World) : HandSHeadRun.RunEq R (PySem.W.view R.prog [80]) hk ob 20000 loose w := by
  intro os
  kernel_rfl
end Jr
set_option Elab.async false
set_option linter.all false
set_option maxRecDepth 100000
set_option maxHeartbeats 4000000
/-! The facts of the top, joined. -/
namespace Jr
open PySem PySem.Spec PyProof.Rows L2
theorem decs {p : Prop} [Decidable p] {b : Bool} (h : (decide p && b) = true) : p ∧ b = true := by
  rw [Bool.and_eq_true, decide_eq_true_eq] at h
  exact h
section
variable {P : Program} {w : World} {K : PySem.W.Frag} {h : Heap} {mg : Str → Option Value} {base : Heap}
theorem tx (X : K.In h) (G : h.Ns mainGlobals mg) (c : He.SaysD fa fn K) : Tx mg where
  isinstance := He.free_ok X G (c.fact 66 (f := .free "isinstance") rfl)
  len := He.free_ok X G (c.fact 67 (f := .free "len") rfl)
  all := He.free_ok X G (c.fact 68 (f := .free "all") rfl)
  any := He.free_ok X G (c.fact 69 (f := .free "any") rfl)
  enumerate := He.free_ok X G (c.fact 70 (f := .free "enumerate") rfl)
  zip := He.free_ok X G (c.fact 71 (f := .free "zip") rfl)
  list := He.free_ok X G (c.fact 72 (f := .free "list") rfl)
  range := He.free_ok X G (c.fact 73 (f := .free "range") rfl)
  tuple := He.free_ok X G (c.fact 74 (f := .free "tuple") rfl)
  sorted := He.free_ok X G (c.fact 75 (f := .free "sorted") rfl)
  set := He.free_ok X G (c.fact 76 (f := .free "set") rfl)
  min := He.free_ok X G (c.fact 77 (f := .free "min") rfl)
  max := He.free_ok X G (c.fact 78 (f := .free "max") rfl)
  sum := He.free_ok X G (c.fact 79 (f := .free "sum") rfl)
  int := He.free_ok X G (c.fact 80 (f := .free "int") rfl)
  bool := He.free_ok X G (c.fact 81 (f := .free "bool") rfl)
  str := He.free_ok X G (c.fact 82 (f := .free "str") rfl)
  REACH := He.int_ok X G (c.fact 58 (f := .int "REACH" 1) rfl)
  MOST_REACH := He.int_ok X G (c.fact 59 (f := .int "MOST_REACH" 48) rfl)
  MOST_SPOTS := He.int_ok X G (c.fact 60 (f := .int "MOST_SPOTS" 400) rfl)
  MOST_PLACES := He.int_ok X G (c.fact 61 (f := .int "MOST_PLACES" 12) rfl)
  MOST_TREES := He.int_ok X G (c.fact 62 (f := .int "MOST_TREES" 4) rfl)
  MOST_NAMES := He.int_ok X G (c.fact 63 (f := .int "MOST_NAMES" 24) rfl)
  MOST_SIGNS := He.int_ok X G (c.fact 64 (f := .int "MOST_SIGNS" 8) rfl)
  SIGNS := He.str_ok X G (c.fact 65 (f := .str "SIGNS" "abcdefghijklmnopqrstuvwxyz") rfl)
theorem wd (X : K.In h) (G : h.Ns mainGlobals mg) (c : He.SaysD fa fn K) (e : exW K = true) : WdOk K mg (He.ga K "World") := by
  unfold exW at e
  obtain ⟨e1, e⟩ := decs e
  obtain ⟨e2, e⟩ := decs e
  obtain ⟨e3, e⟩ := decs e
  obtain ⟨e4, e⟩ := decs e
  exact ⟨He.glo_ok X G (c.fact 51 (f := .glo "World") rfl), ⟨He.cls_ok (c.fact 52 (f := .cls "World") rfl), e1, e2, e3, e4, of_decide_eq_true e⟩, He.noat_ok (c.fact 55 (f := .noat "World" "trees") rfl), He.noat_ok (c.fact 56 (f := .noat "World" "tables") rfl)⟩
theorem law_ok (X : K.In h) (G : h.Ns mainGlobals mg) (c : He.SaysD fa fn K) (e : exW K = true) {fd : FuncData} (F : FnP K "law" s_law (He.ga K "law") fd) : FnOk P w K mg base CX0 12 (He.ga K "law") fd ["_law_script"] (sp_law K) := by
  have T := tx X G c
  have W := wd X G c e
  obtain ⟨fd_is_whole, F_is_whole⟩ := c.def_ 0 (d := d_is_whole) rfl
  have K_is_whole := k_is_whole (P := P) (w := w) (base := base) T F_is_whole (He.glo_ok X G (c.fact 0 (f := .glo "is_whole") rfl))
  obtain ⟨fd_is_within, F_is_within⟩ := c.def_ 1 (d := d_is_within) rfl
  have K_is_within := k_is_within (P := P) (w := w) (base := base) K_is_whole F_is_within (He.glo_ok X G (c.fact 1 (f := .glo "is_within") rfl))
  obtain ⟨fd_is_tree, F_is_tree⟩ := c.def_ 2 (d := d_is_tree) rfl
  have K_is_tree := k_is_tree (P := P) (w := w) (base := base) T K_is_within F_is_tree (He.glo_ok X G (c.fact 2 (f := .glo "is_tree") rfl))
  obtain ⟨fd_check_tree, F_check_tree⟩ := c.def_ 3 (d := d_check_tree) rfl
  have K_check_tree := k_check_tree (P := P) (w := w) (base := base) K_is_tree F_check_tree (He.glo_ok X G (c.fact 3 (f := .glo "check_tree") rfl))
  obtain ⟨fd_check_place, F_check_place⟩ := c.def_ 4 (d := d_check_place) rfl
  have K_check_place := k_check_place (P := P) (w := w) (base := base) T K_is_within F_check_place (He.glo_ok X G (c.fact 4 (f := .glo "check_place") rfl))
  obtain ⟨fd_downward, F_downward⟩ := c.def_ 5 (d := d_downward) rfl
  have K_downward := k_downward (P := P) (w := w) (base := base) F_downward (He.glo_ok X G (c.fact 5 (f := .glo "downward") rfl))
  obtain ⟨fd_steps_between, F_steps_between⟩ := c.def_ 6 (d := d_steps_between) rfl
  have K_steps_between := k_steps (P := P) (w := w) (base := base) K_downward F_steps_between (He.glo_ok X G (c.fact 6 (f := .glo "steps_between") rfl))
  obtain ⟨fd_way, F_way⟩ := c.def_ 7 (d := d_way) rfl
  have K_way := k_way (P := P) (w := w) (base := base) T K_check_tree K_check_place K_steps_between F_way (He.glo_ok X G (c.fact 7 (f := .glo "way") rfl))
  obtain ⟨fd_gaps, F_gaps⟩ := c.def_ 8 (d := d_gaps) rfl
  have K_gaps := k_gaps (P := P) (w := w) (base := base) T K_steps_between F_gaps (He.glo_ok X G (c.fact 8 (f := .glo "gaps") rfl))
  obtain ⟨fd_hangs_together, F_hangs_together⟩ := c.def_ 9 (d := d_hangs_together) rfl
  have K_hangs_together := k_hangs (P := P) (w := w) (base := base) T K_is_within F_hangs_together (He.glo_ok X G (c.fact 9 (f := .glo "hangs_together") rfl))
  obtain ⟨fd_branch_around, F_branch_around⟩ := c.def_ 10 (d := d_branch_around) rfl
  have K_branch_around := k_around (P := P) (w := w) (base := base) T K_steps_between F_branch_around (He.glo_ok X G (c.fact 10 (f := .glo "branch_around") rfl))
  obtain ⟨fd_least_gap, F_least_gap⟩ := c.def_ 11 (d := d_least_gap) rfl
  have K_least_gap := k_least (P := P) (w := w) (base := base) T F_least_gap (He.glo_ok X G (c.fact 11 (f := .glo "least_gap") rfl))
  obtain ⟨fd_sizes, F_sizes⟩ := c.def_ 52 (d := d_W_sizes) rfl
  have Z_sizes := k_sizes (P := P) (w := w) (base := base) T W F_sizes
  have K_sizes : KnM P w K mg base (He.ga K "World") "sizes" 1 (sp_sizes (He.ga K "World")) := ⟨⟨_, fd_sizes, He.meth_ok (c.fact 54 (f := .meth "World" "sizes") rfl), Z_sizes.1, Z_sizes.2⟩⟩
  obtain ⟨fd_check_world, F_check_world⟩ := c.def_ 12 (d := d_check_world) rfl
  have K_check_world := k_check_world (P := P) (w := w) (base := base) T W F_check_world (He.glo_ok X G (c.fact 12 (f := .glo "check_world") rfl))
  obtain ⟨fd_init, F_init⟩ := c.def_ 51 (d := d_W_init) rfl
  have Z_init := k_init2 (P := P) (w := w) (base := base) T W K_is_tree K_gaps F_init
  have M : MkW P w K mg base (He.ga K "World") := ⟨⟨_, fd_init, He.glo_ok X G (c.fact 51 (f := .glo "World") rfl), He.mkr_ok (c.fact 53 (f := .mkr "World") rfl), Z_init.1, Z_init.2⟩⟩
  obtain ⟨fd_makes_part, F_makes_part⟩ := c.def_ 13 (d := d_makes_part) rfl
  have K_makes_part := k_makes_part (P := P) (w := w) (base := base) T W K_hangs_together F_makes_part (He.glo_ok X G (c.fact 13 (f := .glo "makes_part") rfl))
  obtain ⟨fd_makes_spot, F_makes_spot⟩ := c.def_ 14 (d := d_makes_spot) rfl
  have K_makes_spot := k_makes_spot (P := P) (w := w) (base := base) T W K_is_within F_makes_spot (He.glo_ok X G (c.fact 14 (f := .glo "makes_spot") rfl))
  obtain ⟨fd_check_part, F_check_part⟩ := c.def_ 15 (d := d_check_part) rfl
  have K_check_part := k_check_part (P := P) (w := w) (base := base) K_makes_part F_check_part (He.glo_ok X G (c.fact 15 (f := .glo "check_part") rfl))
  obtain ⟨fd_check_spot, F_check_spot⟩ := c.def_ 16 (d := d_check_spot) rfl
  have K_check_spot := k_check_spot (P := P) (w := w) (base := base) K_makes_spot F_check_spot (He.glo_ok X G (c.fact 16 (f := .glo "check_spot") rfl))
  obtain ⟨fd_check_two, F_check_two⟩ := c.def_ 17 (d := d_check_two) rfl
  have K_check_two := k_check_two (P := P) (w := w) (base := base) K_check_world K_check_part F_check_two (He.glo_ok X G (c.fact 17 (f := .glo "check_two") rfl))
  obtain ⟨fd_is_part, F_is_part⟩ := c.def_ 18 (d := d_is_part) rfl
  have K_is_part := k_is_part (P := P) (w := w) (base := base) K_check_world K_makes_part F_is_part (He.glo_ok X G (c.fact 18 (f := .glo "is_part") rfl))
  obtain ⟨fd_as_part, F_as_part⟩ := c.def_ 19 (d := d_as_part) rfl
  have K_as_part := k_as_part (P := P) (w := w) (base := base) T K_check_world K_check_spot F_as_part (He.glo_ok X G (c.fact 19 (f := .glo "as_part") rfl))
  obtain ⟨fd_part_in, F_part_in⟩ := c.def_ 20 (d := d_part_in) rfl
  have K_part_in := k_part_in (P := P) (w := w) (base := base) T F_part_in (He.glo_ok X G (c.fact 20 (f := .glo "part_in") rfl))
  obtain ⟨fd_part_far, F_part_far⟩ := c.def_ 21 (d := d_part_far) rfl
  have K_part_far := k_part_far (P := P) (w := w) (base := base) T W K_least_gap F_part_far (He.glo_ok X G (c.fact 21 (f := .glo "part_far") rfl))
  obtain ⟨fd_part_hull, F_part_hull⟩ := c.def_ 22 (d := d_part_hull) rfl
  have K_part_hull := k_part_hull (P := P) (w := w) (base := base) T W K_branch_around F_part_hull (He.glo_ok X G (c.fact 22 (f := .glo "part_hull") rfl))
  obtain ⟨fd_nearest, F_nearest⟩ := c.def_ 23 (d := d_nearest) rfl
  have K_nearest := k_nearest (P := P) (w := w) (base := base) T W K_check_two K_least_gap F_nearest (He.glo_ok X G (c.fact 23 (f := .glo "nearest") rfl))
  obtain ⟨fd_is_name, F_is_name⟩ := c.def_ 24 (d := d_is_name) rfl
  have K_is_name := k_is_name (P := P) (w := w) (base := base) T F_is_name (He.glo_ok X G (c.fact 24 (f := .glo "is_name") rfl))
  obtain ⟨fd_first_wrong, F_first_wrong⟩ := c.def_ 25 (d := d_first_wrong) rfl
  have K_first_wrong := k_first_wrong (P := P) (w := w) (base := base) T K_is_name K_is_part F_first_wrong (He.glo_ok X G (c.fact 25 (f := .glo "first_wrong") rfl))
  obtain ⟨fd_check_book, F_check_book⟩ := c.def_ 26 (d := d_check_book) rfl
  have K_check_book := k_check_book (P := P) (w := w) (base := base) T K_first_wrong F_check_book (He.glo_ok X G (c.fact 26 (f := .glo "check_book") rfl))
  obtain ⟨fd_part_of, F_part_of⟩ := c.def_ 27 (d := d_part_of) rfl
  have K_part_of := k_part_of (P := P) (w := w) (base := base) T K_is_name F_part_of (He.glo_ok X G (c.fact 27 (f := .glo "part_of") rfl))
  obtain ⟨fd_check_reach, F_check_reach⟩ := c.def_ 28 (d := d_check_reach) rfl
  have K_check_reach := k_check_reach (P := P) (w := w) (base := base) T K_is_within F_check_reach (He.glo_ok X G (c.fact 28 (f := .glo "check_reach") rfl))
  obtain ⟨fd_closed, F_closed⟩ := c.def_ 29 (d := d_closed) rfl
  have K_closed := k_closed (P := P) (w := w) (base := base) T K_part_far K_part_hull F_closed (He.glo_ok X G (c.fact 29 (f := .glo "closed") rfl))
  obtain ⟨fd_together, F_together⟩ := c.def_ 30 (d := d_together) rfl
  have K_together := k_together (P := P) (w := w) (base := base) T K_check_world K_check_book K_part_of K_check_reach K_closed K_part_in F_together (He.glo_ok X G (c.fact 30 (f := .glo "together") rfl))
  obtain ⟨fd_walked, F_walked⟩ := c.def_ 31 (d := d_walked) rfl
  have K_walked := k_walked (P := P) (w := w) (base := base) T W K_nearest K_way F_walked (He.glo_ok X G (c.fact 31 (f := .glo "walked") rfl))
  obtain ⟨fd_stones_for, F_stones_for⟩ := c.def_ 32 (d := d_stones_for) rfl
  have K_stones_for := k_stones_for (P := P) (w := w) (base := base) T K_walked F_stones_for (He.glo_ok X G (c.fact 32 (f := .glo "stones_for") rfl))
  obtain ⟨fd_stones, F_stones⟩ := c.def_ 33 (d := d_stones) rfl
  have K_stones := k_stones (P := P) (w := w) (base := base) K_check_world K_check_part K_check_reach K_stones_for F_stones (He.glo_ok X G (c.fact 33 (f := .glo "stones") rfl))
  obtain ⟨fd_all_spots, F_all_spots⟩ := c.def_ 34 (d := d_all_spots) rfl
  have K_all_spots := k_all_spots (P := P) (w := w) (base := base) T W K_sizes F_all_spots (He.glo_ok X G (c.fact 34 (f := .glo "all_spots") rfl))
  obtain ⟨fd_helps, F_helps⟩ := c.def_ 35 (d := d_helps) rfl
  have K_helps := k_helps (P := P) (w := w) (base := base) T K_check_world K_check_book K_part_of K_check_reach K_closed K_part_in K_all_spots F_helps (He.glo_ok X G (c.fact 35 (f := .glo "helps") rfl))
  obtain ⟨fd__law_cell, F__law_cell⟩ := c.def_ 36 (d := d__law_cell) rfl
  have K__law_cell := k_cell (P := P) (w := w) (base := base) T F__law_cell (He.glo_ok X G (c.fact 36 (f := .glo "_law_cell") rfl))
  obtain ⟨fd__law_purse, F__law_purse⟩ := c.def_ 37 (d := d__law_purse) rfl
  have K__law_purse := k_purse (P := P) (w := w) (base := base) T F__law_purse (He.glo_ok X G (c.fact 37 (f := .glo "_law_purse") rfl))
  obtain ⟨fd__law_pick, F__law_pick⟩ := c.def_ 38 (d := d__law_pick) rfl
  have K__law_pick := k_pick (P := P) (w := w) (base := base) F__law_pick (He.glo_ok X G (c.fact 38 (f := .glo "_law_pick") rfl))
  obtain ⟨fd__law_wood, F__law_wood⟩ := c.def_ 39 (d := d__law_wood) rfl
  have K__law_wood := k_wood (P := P) (w := w) (base := base) T K__law_pick F__law_wood (He.glo_ok X G (c.fact 39 (f := .glo "_law_wood") rfl))
  obtain ⟨fd__law_gaps, F__law_gaps⟩ := c.def_ 40 (d := d__law_gaps) rfl
  have K__law_gaps := k_lgaps (P := P) (w := w) (base := base) T F__law_gaps (He.glo_ok X G (c.fact 40 (f := .glo "_law_gaps") rfl))
  obtain ⟨fd__law_way_of, F__law_way_of⟩ := c.def_ 41 (d := d__law_way_of) rfl
  have K__law_way_of := k_wayof (P := P) (w := w) (base := base) T F__law_way_of (He.glo_ok X G (c.fact 41 (f := .glo "_law_way_of") rfl))
  obtain ⟨fd__law_limb_by, F__law_limb_by⟩ := c.def_ 42 (d := d__law_limb_by) rfl
  have K__law_limb_by := k_limb (P := P) (w := w) (base := base) T K__law_way_of F__law_limb_by (He.glo_ok X G (c.fact 42 (f := .glo "_law_limb_by") rfl))
  obtain ⟨fd__law_piece, F__law_piece⟩ := c.def_ 43 (d := d__law_piece) rfl
  have K__law_piece := k_piece (P := P) (w := w) (base := base) T K__law_pick K__law_gaps K__law_limb_by F__law_piece (He.glo_ok X G (c.fact 43 (f := .glo "_law_piece") rfl))
  obtain ⟨fd__law_point, F__law_point⟩ := c.def_ 44 (d := d__law_point) rfl
  have K__law_point := k_point (P := P) (w := w) (base := base) T K__law_pick F__law_point (He.glo_ok X G (c.fact 44 (f := .glo "_law_point") rfl))
  obtain ⟨fd__law_all_points, F__law_all_points⟩ := c.def_ 45 (d := d__law_all_points) rfl
  have K__law_all_points := k_points (P := P) (w := w) (base := base) T F__law_all_points (He.glo_ok X G (c.fact 45 (f := .glo "_law_all_points") rfl))
  obtain ⟨fd__law_bring, F__law_bring⟩ := c.def_ 46 (d := d__law_bring) rfl
  have K__law_bring := k_bring (P := P) (w := w) (base := base) T K_as_part K_together F__law_bring (He.glo_ok X G (c.fact 46 (f := .glo "_law_bring") rfl))
  obtain ⟨fd__law_no_fewer, F__law_no_fewer⟩ := c.def_ 47 (d := d__law_no_fewer) rfl
  have K__law_no_fewer := k_no_fewer (P := P) (w := w) (base := base) T K__law_all_points K__law_bring K__law_pick F__law_no_fewer (He.glo_ok X G (c.fact 47 (f := .glo "_law_no_fewer") rfl))
  obtain ⟨fd__law_helps_right, F__law_helps_right⟩ := c.def_ 48 (d := d__law_helps_right) rfl
  have K__law_helps_right := k_helps_right (P := P) (w := w) (base := base) T K__law_all_points K_helps F__law_helps_right (He.glo_ok X G (c.fact 48 (f := .glo "_law_helps_right") rfl))
  obtain ⟨fd__law_right, F__law_right⟩ := c.def_ 49 (d := d__law_right) rfl
  have K__law_right := k_right (P := P) (w := w) (base := base) T K_stones K__law_bring K__law_helps_right K__law_no_fewer F__law_right (He.glo_ok X G (c.fact 49 (f := .glo "_law_right") rfl))
  exact ok_law T M K__law_cell K__law_purse K__law_wood K__law_pick K__law_piece K__law_point K_as_part K__law_right F
end
theorem facts {P : Program} {w : World} {K : PySem.W.Frag} {h : Heap} {mg : Str → Option Value} {f : Addr} (X : K.In h) (G : h.Ns mainGlobals mg) (hfa : mg ("law" : Str) = some (.ref f)) (c : He.SaysX fa fn [] [] exW w h K) :
    ∃ fd : FuncData, (∀ (s : Shared) (v : Value), BindsTo s fd ⟨[v], []⟩ [("_law_script", v)]) ∧ ∀ base : Heap, K.In base → base.Ns mainGlobals mg → FnOk P w K mg base CX0 12 f fd ["_law_script"] (sp_law K) := by
  obtain ⟨fd, F⟩ := c.t.d.def_ 50 (d := d_law) rfl
  have e := hfa.symm.trans (He.glo_ok X G (c.t.d.fact 50 (f := .glo "law") rfl))
  cases e
  have b := FunD.bindsA (ps := ["_law_script"]) F fun _ _ _ _ _ _ us hl => match us, hl with | [_], _ => rfl
  exact ⟨fd, fun s v => b s [v] rfl, fun base _ _ => law_ok X G c.t.d c.more F⟩
end Jr
set_option Elab.async false
set_option linter.all false
set_option maxRecDepth 100000
set_option maxHeartbeats 0
open PySem PySem.W PySem.Calls PyProof.Rows
theorem PySem.Challenge.cw_joinreach_k45_whole_no_fewer_stones_holds : PySem.Challenge.rw_joinreach_k45_whole_no_fewer_stones.Holds := by
  w_on; o_law
  refine HandSHeadRun.head_any (r := OpenLaw.row PySem.Challenge.rw_joinreach_k45_whole_no_fewer_stones) (q := view (OpenLaw.row PySem.Challenge.rw_joinreach_k45_whole_no_fewer_stones).prog [80]) (H := Jr.hk) (ob := Jr.ob) (M := 20000) (loose := Jr.loose) (d := HandSHeadRun.topDef (OpenLaw.row PySem.Challenge.rw_joinreach_k45_whole_no_fewer_stones).prog 80) (kwd := []) Jr.ob_eq
    (by kernel_rfl) (fun s => by kernel_rfl) Jr.run (by kernel_rfl) (by kernel_rfl) (by kernel_rfl) (by rfl) (by first | assumption | decide +kernel) (by decide +kernel) ⟨rfl, rfl, rfl, rfl, rfl, by decide +kernel⟩ ?hw ?hc
  case hw => w_witness2
  case hc =>
    refine L2.walk_ofE (l := PySem.Challenge.rw_joinreach_k45_whole_no_fewer_stones) (n := 63) (k := 12) (x := "_law_script") (CX := L2.CX0) rfl (by decide) (by kernel_rfl) ⟨rfl, by decide, by decide⟩ ?F (fun _ _ _ _ z => z)
    intro w mg fa h Y G hmg0
    obtain ⟨K, KX, c⟩ := Y
    have hmg : mg ("law" : PySem.Str) = some (.ref fa) := by
      have e : (HandSHeadRun.topDef (OpenLaw.row PySem.Challenge.rw_joinreach_k45_whole_no_fewer_stones).prog 80).name = ("law" : PySem.Str) := by kernel_rfl
      rw [← e]
      exact hmg0
    obtain ⟨fd, hb, hF⟩ := Jr.facts (P := (PySem.Challenge.rw_joinreach_k45_whole_no_fewer_stones).prog) (w := w) KX G hmg c
    exact ⟨K, fd, Jr.sp_law K, KX, hb, fun H a ns hl _ hS => ⟨a, ns, rfl, hS, fun _ => rfl⟩, hF⟩
