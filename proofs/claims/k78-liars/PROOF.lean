import PyProof.Rows.All
import Wide.All
import OpenK.AllK
import Wide.FinOn
import KE.KStateDown
import HandS.Base
import HandS.Call
import HandS.Defaults
import HandS.Words
import HandS.Head0
import HandS.Head1
import HandS.Head2
import HandS.Head3
import HandS.HeadEnd
import HandS.HeadHook1
import HandS.HeadHook2
import HandS.HeadHook3
import HandS.HeadHook4
import HandS.HeadWalk
import HandS.ForMost
import HandS.Evl
import HandS.Walk
import HandS.TupAny
import HandS.Style
import HandS.MakeKwOnly
import HandS.Zip
import HandS.IsInst
import HandS.Gcd
import HandS.Flow
import HandS.More
import KE.GoesMore
import KE.GoesEnum
import PySem.Challenge.RW_sureplace_k78_whole_who_is_shown_to_lie
set_option Elab.async false
set_option linter.all false
section
set_option Elab.async false
set_option linter.all false
set_option maxRecDepth 100000
set_option maxHeartbeats 0
/-! The head: where the defs stand, the facts, the run (printed by gen_head.py). -/
namespace SpH
open PySem PySem.Spec PyProof.Rows L2
abbrev prog : Program := PySem.Challenge.pw_sureplace_k78_whole_who_is_shown_to_lie
def top (i : Nat) : Stmt := prog.main.body.getD i (.Pass ⟨0, 0, 0, 0⟩)
abbrev s_is_name : Stmt := top 10
abbrev s_Setting_init : Stmt := L2.inClass (top 13) 0
abbrev s_in_room : Stmt := top 19
abbrev s_box_in_room : Stmt := top 20
abbrev s_kind_in_bounds : Stmt := top 21
abbrev s_Reading_init : Stmt := L2.inClass (top 22) 0
abbrev s_Question_init : Stmt := L2.inClass (top 25) 0
abbrev s_asked : Stmt := top 26
abbrev s_Marks_init : Stmt := L2.inClass (top 28) 0
abbrev s_joined : Stmt := top 29
abbrev s_step_right : Stmt := top 30
abbrev s_blames_right : Stmt := top 31
abbrev s_root_down : Stmt := top 33
abbrev s_root_up : Stmt := top 34
abbrev s_middle : Stmt := top 36
abbrev s_half_side : Stmt := top 37
abbrev s_radius : Stmt := top 38
abbrev s_inside : Stmt := top 39
abbrev s_is_small : Stmt := top 40
abbrev s_widest : Stmt := top 41
abbrev s_cut : Stmt := top 42
abbrev s_halves : Stmt := top 43
abbrev s_nearest : Stmt := top 45
abbrev s_farthest : Stmt := top 46
abbrev s_distances : Stmt := top 47
abbrev s_dot : Stmt := top 48
abbrev s_minus : Stmt := top 49
abbrev s_from_piece : Stmt := top 50
abbrev s_side_span : Stmt := top 51
abbrev s_between : Stmt := top 52
abbrev s_greatest_from : Stmt := top 53
abbrev s_span : Stmt := top 54
abbrev s_reach : Stmt := top 56
abbrev s_slip : Stmt := top 57
abbrev s_farther : Stmt := top 58
abbrev s_widened : Stmt := top 59
abbrev s_rate : Stmt := top 61
abbrev s_clock_rate : Stmt := top 62
abbrev s_moved : Stmt := top 63
abbrev s_carried : Stmt := top 64
abbrev s_excludes : Stmt := top 65
abbrev s_Held_init : Stmt := L2.inClass (top 68) 0
abbrev s_by_reading : Stmt := top 69
abbrev s_by_known : Stmt := top 70
abbrev s_by_kept : Stmt := top 71
abbrev s_by_step : Stmt := top 72
abbrev s_judge_tree : Stmt := top 73
abbrev s_Known_init : Stmt := L2.inClass (top 75) 0
abbrev s_Paper_init : Stmt := L2.inClass (top 76) 0
abbrev s_root_at : Stmt := top 77
abbrev s_judge_next : Stmt := top 78
abbrev s_judge_known : Stmt := top 79
abbrev s_used_by : Stmt := top 80
abbrev s_judge_paper : Stmt := top 81
abbrev s_judge_witness : Stmt := top 94
abbrev s_Standing_init : Stmt := L2.inClass (top 96) 0
abbrev s_with_fewer : Stmt := top 97
abbrev s_cannot_lie : Stmt := top 98
abbrev s_shown_in : Stmt := top 99
abbrev s_standing : Stmt := top 100
abbrev s_suspects : Stmt := top 102
abbrev s_first_unmet : Stmt := top 103
abbrev s_make_steps : Stmt := top 104
abbrev s_add_steps : Stmt := top 105
abbrev s_make_paper : Stmt := top 107
abbrev s_Row_init : Stmt := L2.inClass (top 111) 0
abbrev s_Knowing_init : Stmt := L2.inClass (top 112) 0
abbrev s_far : Stmt := L2.inClass (top 112) 1
abbrev s_left_out : Stmt := L2.inClass (top 112) 2
abbrev s_make_cover : Stmt := L2.inClass (top 112) 3
abbrev s_add : Stmt := L2.inClass (top 112) 4
abbrev s_add_row : Stmt := L2.inClass (top 112) 5
abbrev s_know : Stmt := top 113
abbrev s_Plan_init : Stmt := L2.inClass (top 117) 0
abbrev s_law_rows : Stmt := top 119
abbrev s_law_root : Stmt := top 120
abbrev s_law_up : Stmt := top 121
abbrev s_law_digits : Stmt := top 122
abbrev s_law_setting : Stmt := top 123
abbrev s_law_velocity : Stmt := top 124
abbrev s_law_at : Stmt := top 125
abbrev s_law_way : Stmt := top 126
abbrev s_law_square : Stmt := top 127
abbrev s_law_piece : Stmt := top 128
abbrev s_law_boxes : Stmt := top 129
abbrev s_law_value : Stmt := top 130
abbrev s_law_point : Stmt := top 131
abbrev s_law_kind : Stmt := top 132
abbrev s_law_moved : Stmt := top 133
abbrev s_law_reading : Stmt := top 134
abbrev s_law_readings : Stmt := top 135
abbrev s_law_question : Stmt := top 136
abbrev s_law_plan : Stmt := top 137
abbrev s_law_case : Stmt := top 138
abbrev s_law_made : Stmt := top 139
abbrev s_law : Stmt := top 140
/-- a keyword-only default, if it is an object -/
def kwAt (f : Str × Option Str) (x : Str) (K : PySem.W.Frag) : Addr := match K.lookup (He.fAd K f) with
  | some ⟨_, _, .func fd, _⟩ => (match fd.kwdefaults with
    | .ref D => (match PySem.W.nsIn K D x with
      | some (some (.ref a)) => a
      | _ => 0)
    | _ => 0)
  | _ => 0
def d_is_name : He.DefD := ⟨("is_name", none), "is_name", "is_name", defArgs s_is_name, defBody s_is_name, defScope s_is_name, [], []⟩
def d_Setting_init : He.DefD := ⟨("Setting", some "__init__"), "__init__", "Setting.__init__", defArgs s_Setting_init, defBody s_Setting_init, defScope s_Setting_init, [], []⟩
def d_in_room : He.DefD := ⟨("in_room", none), "in_room", "in_room", defArgs s_in_room, defBody s_in_room, defScope s_in_room, [], []⟩
def d_box_in_room : He.DefD := ⟨("box_in_room", none), "box_in_room", "box_in_room", defArgs s_box_in_room, defBody s_box_in_room, defScope s_box_in_room, [], []⟩
def d_kind_in_bounds : He.DefD := ⟨("kind_in_bounds", none), "kind_in_bounds", "kind_in_bounds", defArgs s_kind_in_bounds, defBody s_kind_in_bounds, defScope s_kind_in_bounds, [], []⟩
def d_Reading_init : He.DefD := ⟨("Reading", some "__init__"), "__init__", "Reading.__init__", defArgs s_Reading_init, defBody s_Reading_init, defScope s_Reading_init, [], [("late", .int 0), ("near", .int 0)]⟩
def d_Question_init : He.DefD := ⟨("Question", some "__init__"), "__init__", "Question.__init__", defArgs s_Question_init, defBody s_Question_init, defScope s_Question_init, [], []⟩
def d_asked : He.DefD := ⟨("asked", none), "asked", "asked", defArgs s_asked, defBody s_asked, defScope s_asked, [], []⟩
def d_Marks_init : He.DefD := ⟨("Marks", some "__init__"), "__init__", "Marks.__init__", defArgs s_Marks_init, defBody s_Marks_init, defScope s_Marks_init, [], []⟩
def d_joined : He.DefD := ⟨("_joined", none), "_joined", "_joined", defArgs s_joined, defBody s_joined, defScope s_joined, [], []⟩
def d_step_right : He.DefD := ⟨("_step_right", none), "_step_right", "_step_right", defArgs s_step_right, defBody s_step_right, defScope s_step_right, [], []⟩
def d_blames_right : He.DefD := ⟨("blames_right", none), "blames_right", "blames_right", defArgs s_blames_right, defBody s_blames_right, defScope s_blames_right, [], [("honest", .adr (kwAt ("blames_right", none) "honest"))]⟩
def d_root_down : He.DefD := ⟨("root_down", none), "root_down", "root_down", defArgs s_root_down, defBody s_root_down, defScope s_root_down, [], []⟩
def d_root_up : He.DefD := ⟨("root_up", none), "root_up", "root_up", defArgs s_root_up, defBody s_root_up, defScope s_root_up, [], []⟩
def d_middle : He.DefD := ⟨("middle", none), "middle", "middle", defArgs s_middle, defBody s_middle, defScope s_middle, [], []⟩
def d_half_side : He.DefD := ⟨("half_side", none), "half_side", "half_side", defArgs s_half_side, defBody s_half_side, defScope s_half_side, [], []⟩
def d_radius : He.DefD := ⟨("radius", none), "radius", "radius", defArgs s_radius, defBody s_radius, defScope s_radius, [], []⟩
def d_inside : He.DefD := ⟨("inside", none), "inside", "inside", defArgs s_inside, defBody s_inside, defScope s_inside, [], []⟩
def d_is_small : He.DefD := ⟨("is_small", none), "is_small", "is_small", defArgs s_is_small, defBody s_is_small, defScope s_is_small, [], []⟩
def d_widest : He.DefD := ⟨("widest", none), "widest", "widest", defArgs s_widest, defBody s_widest, defScope s_widest, [], []⟩
def d_cut : He.DefD := ⟨("cut", none), "cut", "cut", defArgs s_cut, defBody s_cut, defScope s_cut, [], []⟩
def d_halves : He.DefD := ⟨("halves", none), "halves", "halves", defArgs s_halves, defBody s_halves, defScope s_halves, [], []⟩
def d_nearest : He.DefD := ⟨("nearest", none), "nearest", "nearest", defArgs s_nearest, defBody s_nearest, defScope s_nearest, [], []⟩
def d_farthest : He.DefD := ⟨("farthest", none), "farthest", "farthest", defArgs s_farthest, defBody s_farthest, defScope s_farthest, [], []⟩
def d_distances : He.DefD := ⟨("distances", none), "distances", "distances", defArgs s_distances, defBody s_distances, defScope s_distances, [], []⟩
def d_dot : He.DefD := ⟨("dot", none), "dot", "dot", defArgs s_dot, defBody s_dot, defScope s_dot, [], []⟩
def d_minus : He.DefD := ⟨("minus", none), "minus", "minus", defArgs s_minus, defBody s_minus, defScope s_minus, [], []⟩
def d_from_piece : He.DefD := ⟨("from_piece", none), "from_piece", "from_piece", defArgs s_from_piece, defBody s_from_piece, defScope s_from_piece, [], []⟩
def d_side_span : He.DefD := ⟨("side_span", none), "side_span", "side_span", defArgs s_side_span, defBody s_side_span, defScope s_side_span, [], []⟩
def d_between : He.DefD := ⟨("between", none), "between", "between", defArgs s_between, defBody s_between, defScope s_between, [], []⟩
def d_greatest_from : He.DefD := ⟨("greatest_from", none), "greatest_from", "greatest_from", defArgs s_greatest_from, defBody s_greatest_from, defScope s_greatest_from, [], []⟩
def d_span : He.DefD := ⟨("span", none), "span", "span", defArgs s_span, defBody s_span, defScope s_span, [], []⟩
def d_reach : He.DefD := ⟨("reach", none), "reach", "reach", defArgs s_reach, defBody s_reach, defScope s_reach, [], []⟩
def d_slip : He.DefD := ⟨("slip", none), "slip", "slip", defArgs s_slip, defBody s_slip, defScope s_slip, [], []⟩
def d_farther : He.DefD := ⟨("farther", none), "farther", "farther", defArgs s_farther, defBody s_farther, defScope s_farther, [], []⟩
def d_widened : He.DefD := ⟨("widened", none), "widened", "widened", defArgs s_widened, defBody s_widened, defScope s_widened, [], []⟩
def d_rate : He.DefD := ⟨("rate", none), "rate", "rate", defArgs s_rate, defBody s_rate, defScope s_rate, [], []⟩
def d_clock_rate : He.DefD := ⟨("clock_rate", none), "clock_rate", "clock_rate", defArgs s_clock_rate, defBody s_clock_rate, defScope s_clock_rate, [], []⟩
def d_moved : He.DefD := ⟨("moved", none), "moved", "moved", defArgs s_moved, defBody s_moved, defScope s_moved, [], []⟩
def d_carried : He.DefD := ⟨("carried", none), "carried", "carried", defArgs s_carried, defBody s_carried, defScope s_carried, [], []⟩
def d_excludes : He.DefD := ⟨("excludes", none), "excludes", "excludes", defArgs s_excludes, defBody s_excludes, defScope s_excludes, [], []⟩
def d_Held_init : He.DefD := ⟨("Held", some "__init__"), "__init__", "Held.__init__", defArgs s_Held_init, defBody s_Held_init, defScope s_Held_init, [], []⟩
def d_by_reading : He.DefD := ⟨("_by_reading", none), "_by_reading", "_by_reading", defArgs s_by_reading, defBody s_by_reading, defScope s_by_reading, [], []⟩
def d_by_known : He.DefD := ⟨("_by_known", none), "_by_known", "_by_known", defArgs s_by_known, defBody s_by_known, defScope s_by_known, [], []⟩
def d_by_kept : He.DefD := ⟨("_by_kept", none), "_by_kept", "_by_kept", defArgs s_by_kept, defBody s_by_kept, defScope s_by_kept, [], []⟩
def d_by_step : He.DefD := ⟨("_by_step", none), "_by_step", "_by_step", defArgs s_by_step, defBody s_by_step, defScope s_by_step, [], []⟩
def d_judge_tree : He.DefD := ⟨("judge_tree", none), "judge_tree", "judge_tree", defArgs s_judge_tree, defBody s_judge_tree, defScope s_judge_tree, [], []⟩
def d_Known_init : He.DefD := ⟨("Known", some "__init__"), "__init__", "Known.__init__", defArgs s_Known_init, defBody s_Known_init, defScope s_Known_init, [], []⟩
def d_Paper_init : He.DefD := ⟨("Paper", some "__init__"), "__init__", "Paper.__init__", defArgs s_Paper_init, defBody s_Paper_init, defScope s_Paper_init, [], []⟩
def d_root_at : He.DefD := ⟨("root_at", none), "root_at", "root_at", defArgs s_root_at, defBody s_root_at, defScope s_root_at, [], []⟩
def d_judge_next : He.DefD := ⟨("judge_next", none), "judge_next", "judge_next", defArgs s_judge_next, defBody s_judge_next, defScope s_judge_next, [], []⟩
def d_judge_known : He.DefD := ⟨("judge_known", none), "judge_known", "judge_known", defArgs s_judge_known, defBody s_judge_known, defScope s_judge_known, [], []⟩
def d_used_by : He.DefD := ⟨("used_by", none), "used_by", "used_by", defArgs s_used_by, defBody s_used_by, defScope s_used_by, [], []⟩
def d_judge_paper : He.DefD := ⟨("judge_paper", none), "judge_paper", "judge_paper", defArgs s_judge_paper, defBody s_judge_paper, defScope s_judge_paper, [], [("honest", .adr (kwAt ("judge_paper", none) "honest"))]⟩
def d_judge_witness : He.DefD := ⟨("judge_witness", none), "judge_witness", "judge_witness", defArgs s_judge_witness, defBody s_judge_witness, defScope s_judge_witness, [], []⟩
def d_Standing_init : He.DefD := ⟨("Standing", some "__init__"), "__init__", "Standing.__init__", defArgs s_Standing_init, defBody s_Standing_init, defScope s_Standing_init, [], []⟩
def d_with_fewer : He.DefD := ⟨("_with_fewer", none), "_with_fewer", "_with_fewer", defArgs s_with_fewer, defBody s_with_fewer, defScope s_with_fewer, [], []⟩
def d_cannot_lie : He.DefD := ⟨("cannot_lie", none), "cannot_lie", "cannot_lie", defArgs s_cannot_lie, defBody s_cannot_lie, defScope s_cannot_lie, [], []⟩
def d_shown_in : He.DefD := ⟨("shown_in", none), "shown_in", "shown_in", defArgs s_shown_in, defBody s_shown_in, defScope s_shown_in, [], []⟩
def d_standing : He.DefD := ⟨("standing", none), "standing", "standing", defArgs s_standing, defBody s_standing, defScope s_standing, [], [("must", .non), ("cannot", .non), ("lies", .non), ("tells", .non)]⟩
def d_suspects : He.DefD := ⟨("suspects", none), "suspects", "suspects", defArgs s_suspects, defBody s_suspects, defScope s_suspects, [], []⟩
def d_first_unmet : He.DefD := ⟨("first_unmet", none), "first_unmet", "first_unmet", defArgs s_first_unmet, defBody s_first_unmet, defScope s_first_unmet, [], []⟩
def d_make_steps : He.DefD := ⟨("make_steps", none), "make_steps", "make_steps", defArgs s_make_steps, defBody s_make_steps, defScope s_make_steps, [], [("honest", .adr (kwAt ("make_steps", none) "honest"))]⟩
def d_add_steps : He.DefD := ⟨("_add_steps", none), "_add_steps", "_add_steps", defArgs s_add_steps, defBody s_add_steps, defScope s_add_steps, [], []⟩
def d_make_paper : He.DefD := ⟨("make_paper", none), "make_paper", "make_paper", defArgs s_make_paper, defBody s_make_paper, defScope s_make_paper, [], [("honest", .adr (kwAt ("make_paper", none) "honest"))]⟩
def d_Row_init : He.DefD := ⟨("Row", some "__init__"), "__init__", "Row.__init__", defArgs s_Row_init, defBody s_Row_init, defScope s_Row_init, [], []⟩
def d_Knowing_init : He.DefD := ⟨("Knowing", some "__init__"), "__init__", "Knowing.__init__", defArgs s_Knowing_init, defBody s_Knowing_init, defScope s_Knowing_init, [], []⟩
def d_far : He.DefD := ⟨("Knowing", some "far"), "far", "Knowing.far", defArgs s_far, defBody s_far, defScope s_far, [], []⟩
def d_left_out : He.DefD := ⟨("Knowing", some "left_out"), "left_out", "Knowing.left_out", defArgs s_left_out, defBody s_left_out, defScope s_left_out, [], []⟩
def d_make_cover : He.DefD := ⟨("Knowing", some "make_cover"), "make_cover", "Knowing.make_cover", defArgs s_make_cover, defBody s_make_cover, defScope s_make_cover, [], []⟩
def d_add : He.DefD := ⟨("Knowing", some "add"), "add", "Knowing.add", defArgs s_add, defBody s_add, defScope s_add, [], []⟩
def d_add_row : He.DefD := ⟨("Knowing", some "add_row"), "add_row", "Knowing.add_row", defArgs s_add_row, defBody s_add_row, defScope s_add_row, [], []⟩
def d_know : He.DefD := ⟨("know", none), "know", "know", defArgs s_know, defBody s_know, defScope s_know, [], []⟩
def d_Plan_init : He.DefD := ⟨("Plan", some "__init__"), "__init__", "Plan.__init__", defArgs s_Plan_init, defBody s_Plan_init, defScope s_Plan_init, [], []⟩
def d_law_rows : He.DefD := ⟨("_law_rows", none), "_law_rows", "_law_rows", defArgs s_law_rows, defBody s_law_rows, defScope s_law_rows, [], []⟩
def d_law_root : He.DefD := ⟨("_law_root", none), "_law_root", "_law_root", defArgs s_law_root, defBody s_law_root, defScope s_law_root, [], []⟩
def d_law_up : He.DefD := ⟨("_law_up", none), "_law_up", "_law_up", defArgs s_law_up, defBody s_law_up, defScope s_law_up, [], []⟩
def d_law_digits : He.DefD := ⟨("_law_digits", none), "_law_digits", "_law_digits", defArgs s_law_digits, defBody s_law_digits, defScope s_law_digits, [], []⟩
def d_law_setting : He.DefD := ⟨("_law_setting", none), "_law_setting", "_law_setting", defArgs s_law_setting, defBody s_law_setting, defScope s_law_setting, [], []⟩
def d_law_velocity : He.DefD := ⟨("_law_velocity", none), "_law_velocity", "_law_velocity", defArgs s_law_velocity, defBody s_law_velocity, defScope s_law_velocity, [], []⟩
def d_law_at : He.DefD := ⟨("_law_at", none), "_law_at", "_law_at", defArgs s_law_at, defBody s_law_at, defScope s_law_at, [], []⟩
def d_law_way : He.DefD := ⟨("_law_way", none), "_law_way", "_law_way", defArgs s_law_way, defBody s_law_way, defScope s_law_way, [], []⟩
def d_law_square : He.DefD := ⟨("_law_square", none), "_law_square", "_law_square", defArgs s_law_square, defBody s_law_square, defScope s_law_square, [], []⟩
def d_law_piece : He.DefD := ⟨("_law_piece", none), "_law_piece", "_law_piece", defArgs s_law_piece, defBody s_law_piece, defScope s_law_piece, [], []⟩
def d_law_boxes : He.DefD := ⟨("_law_boxes", none), "_law_boxes", "_law_boxes", defArgs s_law_boxes, defBody s_law_boxes, defScope s_law_boxes, [], []⟩
def d_law_value : He.DefD := ⟨("_law_value", none), "_law_value", "_law_value", defArgs s_law_value, defBody s_law_value, defScope s_law_value, [], []⟩
def d_law_point : He.DefD := ⟨("_law_point", none), "_law_point", "_law_point", defArgs s_law_point, defBody s_law_point, defScope s_law_point, [], []⟩
def d_law_kind : He.DefD := ⟨("_law_kind", none), "_law_kind", "_law_kind", defArgs s_law_kind, defBody s_law_kind, defScope s_law_kind, [], []⟩
def d_law_moved : He.DefD := ⟨("_law_moved", none), "_law_moved", "_law_moved", defArgs s_law_moved, defBody s_law_moved, defScope s_law_moved, [], []⟩
def d_law_reading : He.DefD := ⟨("_law_reading", none), "_law_reading", "_law_reading", defArgs s_law_reading, defBody s_law_reading, defScope s_law_reading, [], []⟩
def d_law_readings : He.DefD := ⟨("_law_readings", none), "_law_readings", "_law_readings", defArgs s_law_readings, defBody s_law_readings, defScope s_law_readings, [], []⟩
def d_law_question : He.DefD := ⟨("_law_question", none), "_law_question", "_law_question", defArgs s_law_question, defBody s_law_question, defScope s_law_question, [], []⟩
def d_law_plan : He.DefD := ⟨("_law_plan", none), "_law_plan", "_law_plan", defArgs s_law_plan, defBody s_law_plan, defScope s_law_plan, [], []⟩
def d_law_case : He.DefD := ⟨("_law_case", none), "_law_case", "_law_case", defArgs s_law_case, defBody s_law_case, defScope s_law_case, [], []⟩
def d_law_made : He.DefD := ⟨("_law_made", none), "_law_made", "_law_made", defArgs s_law_made, defBody s_law_made, defScope s_law_made, [], []⟩
def d_law : He.DefD := ⟨("law", none), "law", "law", defArgs s_law, defBody s_law, defScope s_law, [], []⟩
def fn0 : List He.DefD := [d_is_name, d_Setting_init, d_in_room, d_box_in_room, d_kind_in_bounds, d_Reading_init, d_Question_init, d_asked, d_Marks_init, d_joined, d_step_right, d_blames_right, d_root_down, d_root_up, d_middle, d_half_side, d_radius, d_inside, d_is_small, d_widest, d_cut, d_halves, d_nearest, d_farthest, d_distances, d_dot, d_minus, d_from_piece, d_side_span, d_between]
def fn1 : List He.DefD := [d_greatest_from, d_span, d_reach, d_slip, d_farther, d_widened, d_rate, d_clock_rate, d_moved, d_carried, d_excludes, d_Held_init, d_by_reading, d_by_known, d_by_kept, d_by_step, d_judge_tree, d_Known_init, d_Paper_init, d_root_at, d_judge_next, d_judge_known, d_used_by, d_judge_paper, d_judge_witness, d_Standing_init, d_with_fewer, d_cannot_lie, d_shown_in, d_standing]
def fn2 : List He.DefD := [d_suspects, d_first_unmet, d_make_steps, d_add_steps, d_make_paper, d_Row_init, d_Knowing_init, d_far, d_left_out, d_make_cover, d_add, d_add_row, d_know, d_Plan_init, d_law_rows, d_law_root, d_law_up, d_law_digits, d_law_setting, d_law_velocity, d_law_at, d_law_way, d_law_square, d_law_piece, d_law_boxes, d_law_value, d_law_point, d_law_kind, d_law_moved, d_law_reading]
def fn3 : List He.DefD := [d_law_readings, d_law_question, d_law_plan, d_law_case, d_law_made, d_law]
def fn : List He.DefD := fn0 ++ fn1 ++ fn2 ++ fn3
def fa0 : List He.Fa := [.glo "is_name", .glo "in_room", .glo "box_in_room", .glo "kind_in_bounds", .glo "asked", .glo "_joined", .glo "_step_right", .glo "blames_right", .glo "root_down", .glo "root_up", .glo "middle", .glo "half_side", .glo "radius", .glo "inside", .glo "is_small", .glo "widest", .glo "cut", .glo "halves", .glo "nearest", .glo "farthest", .glo "distances", .glo "dot", .glo "minus", .glo "from_piece", .glo "side_span", .glo "between", .glo "greatest_from", .glo "span", .glo "reach", .glo "slip"]
def fa1 : List He.Fa := [.glo "farther", .glo "widened", .glo "rate", .glo "clock_rate", .glo "moved", .glo "carried", .glo "excludes", .glo "_by_reading", .glo "_by_known", .glo "_by_kept", .glo "_by_step", .glo "judge_tree", .glo "root_at", .glo "judge_next", .glo "judge_known", .glo "used_by", .glo "judge_paper", .glo "judge_witness", .glo "_with_fewer", .glo "cannot_lie", .glo "shown_in", .glo "standing", .glo "suspects", .glo "first_unmet", .glo "make_steps", .glo "_add_steps", .glo "make_paper", .glo "know", .glo "_law_rows", .glo "_law_root"]
def fa2 : List He.Fa := [.glo "_law_up", .glo "_law_digits", .glo "_law_setting", .glo "_law_velocity", .glo "_law_at", .glo "_law_way", .glo "_law_square", .glo "_law_piece", .glo "_law_boxes", .glo "_law_value", .glo "_law_point", .glo "_law_kind", .glo "_law_moved", .glo "_law_reading", .glo "_law_readings", .glo "_law_question", .glo "_law_plan", .glo "_law_case", .glo "_law_made", .glo "law", .glo "Setting", .cls "Setting", .mkr "Setting", .keep "Setting", .glo "Reading", .cls "Reading", .mkr "Reading", .keep "Reading", .glo "Question", .cls "Question"]
def fa3 : List He.Fa := [.mkr "Question", .keep "Question", .glo "Marks", .cls "Marks", .mkr "Marks", .keep "Marks", .glo "Held", .cls "Held", .mkr "Held", .keep "Held", .glo "Known", .cls "Known", .mkr "Known", .keep "Known", .glo "Paper", .cls "Paper", .mkr "Paper", .keep "Paper", .glo "Standing", .cls "Standing", .mkr "Standing", .keep "Standing", .glo "Row", .cls "Row", .mkr "Row", .keep "Row", .glo "Knowing", .cls "Knowing", .mkr "Knowing", .keep "Knowing"]
def fa4 : List He.Fa := [.glo "Plan", .cls "Plan", .mkr "Plan", .keep "Plan", .free "len", .free "max", .free "min", .free "sum", .free "all", .free "any", .free "abs", .free "int", .free "tuple", .free "sorted", .free "range", .free "zip", .free "enumerate", .free "isinstance", .int "MOST" 1000000000000, .int "MOST_SIGNS" 64, .int "MOST_VALUE" 1000000000000000, .int "MOST_DIRECTION" 1000, .int "MOST_BOXES" 16, .int "MOST_LIARS" 3, .int "MOST_DEEP" 240, .int "MOST_CUTS" 160, .int "LOOKS" 8, .int "MOST_MOMENTS" 16, .int "MOST_LISTS" 8, .str "SIGNS" "abcdefghijklmnopqrstuvwxyz0123456789_-"]
def fa5 : List He.Fa := [.glo "POINTS", .noat "Setting" "dims", .noat "Setting" "speed", .noat "Setting" "drift", .noat "Setting" "per", .noat "Reading" "source", .noat "Reading" "moment", .noat "Reading" "kind", .noat "Reading" "low", .noat "Reading" "high", .noat "Reading" "late", .noat "Reading" "near", .noat "Question" "moment", .noat "Question" "root", .noat "Question" "liars", .noat "Question" "share", .noat "Question" "earliest", .noat "Question" "latest", .noat "Marks" "left", .noat "Marks" "barred", .noat "Held" "moment", .noat "Held" "cover", .noat "Held" "used", .noat "Known" "moment", .noat "Known" "cover", .noat "Known" "tree", .noat "Paper" "known", .noat "Paper" "trees", .noat "Paper" "steps", .noat "Standing" "must"]
def fa6 : List He.Fa := [.noat "Standing" "cannot", .noat "Standing" "lies", .noat "Standing" "tells", .noat "Row" "names", .noat "Row" "before", .noat "Row" "after", .noat "Knowing" "setting", .noat "Knowing" "question", .noat "Knowing" "readings", .noat "Knowing" "plan", .noat "Knowing" "known", .noat "Knowing" "held", .noat "Plan" "moments", .noat "Plan" "grain", .noat "Plan" "most", .noat "Plan" "without", .meth "Knowing" "far", .meth "Knowing" "left_out", .meth "Knowing" "make_cover", .meth "Knowing" "add", .meth "Knowing" "add_row"]
def fa : List He.Fa := fa0 ++ fa1 ++ fa2 ++ fa3 ++ fa4 ++ fa5 ++ fa6
def loose0 : List Str := ["__name__", "SurePlaceError", "InvalidSetting", "InvalidReading", "InvalidQuestion", "InvalidPlan", "SIGNS", "MOST_SIGNS", "is_name", "MOST", "Setting", "MOST_VALUE", "MOST_DIRECTION", "MOST_BOXES", "POINTS", "in_room"]
def loose1 : List Str := ["box_in_room", "kind_in_bounds", "Reading", "MOST_LIARS", "Question", "asked", "Marks", "_joined", "_step_right", "blames_right", "root_down", "root_up", "middle", "half_side", "radius", "inside"]
def loose2 : List Str := ["is_small", "widest", "cut", "halves", "nearest", "farthest", "distances", "dot", "minus", "from_piece", "side_span", "between", "greatest_from", "span", "reach", "slip"]
def loose3 : List Str := ["farther", "widened", "rate", "clock_rate", "moved", "carried", "excludes", "MOST_DEEP", "Held", "_by_reading", "_by_known", "_by_kept", "_by_step", "judge_tree", "Known", "Paper"]
def loose4 : List Str := ["root_at", "judge_next", "judge_known", "used_by", "judge_paper", "ascend", "_between", "way_at", "cell_radius", "stretch", "margin", "_keeps_pace", "_moves", "_holds", "judge_witness", "Standing"]
def loose5 : List Str := ["_with_fewer", "cannot_lie", "shown_in", "standing", "suspects", "first_unmet", "make_steps", "_add_steps", "make_paper", "MOST_CUTS", "LOOKS", "Row", "Knowing", "know", "MOST_MOMENTS", "MOST_LISTS"]
def loose6 : List Str := ["Plan", "_law_rows", "_law_root", "_law_up", "_law_digits", "_law_setting", "_law_velocity", "_law_at", "_law_way", "_law_square", "_law_piece", "_law_boxes", "_law_value", "_law_point", "_law_kind", "_law_moved"]
def loose7 : List Str := ["_law_reading", "_law_readings", "_law_question", "_law_plan", "_law_case", "_law_made"]
def loose : List Str := loose0 ++ loose1 ++ loose2 ++ loose3 ++ loose4 ++ loose5 ++ loose6 ++ loose7
/-- the rest that is looked at: isqrt, Paper among types, what POINTS holds, the empty tuple of judge_paper -/
def ex (K : PySem.W.Frag) : Bool := He.eqO (PySem.W.nsIn K mainGlobals "isqrt") (some (some (.builtin "math.isqrt"))) &&
  (decide (PySem.W.kitOne K (.ref (He.ga K "Paper")) (.ref (He.ga K "Paper")) = some true) && (decide (PySem.W.kitOne K (.type "NoneType") (.ref (He.ga K "Paper")) = some false) && (decide (PySem.W.kitOne K (.type "tuple") (.ref (He.ga K "Paper")) = some false) &&
  (He.eqO (PySem.W.findIn K (.ref (He.ga K "Paper")) "__class__") (some (some (.builtin "object.__class__"))) && (He.eqO (PySem.W.specialIn K (.builtin "object.__class__") "__get__") (some (some (.builtin "getset_descriptor.__get__"))) &&
  (decide (PySem.W.takesIn K (.builtin "object.__class__") = some true) && (decide (PySem.W.mroIn K (He.ga K "Paper") (.type "object") = some true) &&
  ((["range", "clocked", "differ", "piece"] : List Str).all (fun x => match PySem.W.nsIn K (He.ga K "POINTS") x with | some r => r.isSome | none => false) &&
  (match K.lookup (kwAt ("judge_paper", none) "honest" K) with | some ⟨.type c, _, .seq its _, _⟩ => decide (c = "tuple") && its.isEmpty | _ => false)))))))))
def ts : List He.Tab := [(fun K => He.ga K "POINTS", ["range", "clocked", "differ", "piece"])]
abbrev R : PySem.W.OpenRow := PySem.W.OpenLaw.row PySem.Challenge.rw_sureplace_k78_whole_who_is_shown_to_lie
/-- what an object names, short: no mro -/
def refsM (o : Obj) : List Addr := match o.data with
  | .dict es _ => es.toList.flatMap fun e => He.refV e.val
  | .func fd => He.refV fd.code ++ He.refV fd.defaults ++ He.refV fd.kwdefaults
  | .cls cd => [cd.ns]
  | _ => []
def nextM (g : Addr → Option Obj) (as : List Addr) : List Addr := as.flatMap fun a => match g a with
  | some o => refsM o
  | none => []
def asM (g : Addr → Option Obj) : List Addr :=
  match nextM g [mainGlobals] with
  | l1 => match nextM g l1 with
    | l2 => match nextM g l2 with
      | l3 => match nextM g l3 with
        | l4 => mainGlobals :: (l1 ++ l2 ++ l3 ++ l4)
abbrev AlM : Type := He.AlT × Bool
def obsK (K : PySem.W.Frag) : AlM := (He.obsT fa fn ts K, ex K)
def valM (w : World) : AlM := (He.valT fn ts w, true)
def hk : PySem.W.Hook where
  α := AlM
  obs := fun s => obsK (He.frG s.heap.get? (asM s.heap.get?))
  val := fun w => valM w
  says := fun w h => ∃ K : PySem.W.Frag, K.In h ∧ obsK K = valM w
  of := fun _ _ e => ⟨_, He.frG_in, e⟩
  keeps := fun _ _ _ ⟨K, hK, c⟩ k => ⟨K, PySem.W.Frag.In.keeps hK k, c⟩
def ob (s : PySem.W.SharedT) : AlM := obsK (He.frG (HandSHeadRun.getT s) (asM (HandSHeadRun.getT s)))
theorem ob_eq (s : PySem.W.SharedT) : ob s = hk.obs s.abs := by
  have e : HandSHeadRun.getT s = s.abs.heap.get? := funext (HandSHeadRun.getT_eq s)
  show obsK (He.frG (HandSHeadRun.getT s) (asM (HandSHeadRun.getT s))) = obsK (He.frG s.abs.heap.get? (asM s.abs.heap.get?))
  rw [e]
abbrev q : Program := PySem.W.view R.prog [0, 140]
end SpH
end
section
set_option Elab.async false
set_option linter.all false
set_option maxRecDepth 100000
set_option maxHeartbeats 0
/-! The head's run (printed by gen_head.py). -/
namespace SpH
open PySem PySem.Spec PyProof.Rows L2
open PySem.W PySem.Calls HandSHeadRun
/-- what is looked at, of the state behind the top -/
def KK (x : Shared × SharedT) : PySem.W.Frag := He.frG (HandSHeadRun.getT x.2) (asM (HandSHeadRun.getT x.2))
theorem obs_of {K : PySem.W.Frag} {w : World} (h1 : (fa.all fun f => f.ok K) = true) (h2 : (fn.all fun d => d.ok K, fn.map fun d => He.fnW K d.at_) = (true, fn.map He.DefD.val)) (h3 : (ts.map (fun t => He.dicW K (t.1 K)), ex K) = (ts.map (fun t => some (He.keysIn w.params t.2)), true)) : obsK K = valM w := by
  obtain ⟨h4, h5⟩ := Prod.mk.inj h2
  obtain ⟨h6, h7⟩ := Prod.mk.inj h3
  unfold obsK valM He.obsT He.valT He.obsD He.valD
  rw [h1, h4, h5, h6, h7]
  rfl
theorem yAF (w : World) : (wholeF (fun p => stepQ (denQ tabQ) p (w.withFollow "special-get-raises" false)) fenceQ 20000 R.prog).map (fun x => HandSHeadRun.looksF R.prog x.1.heap x.2.abs) = some (true) := by kernel_rfl
theorem yBF (w : World) : (wholeF (fun p => stepQ (denQ tabQ) p (w.withFollow "special-get-raises" false)) fenceQ 20000 R.prog).map (fun x => (HandSHeadRun.seenQ q loose (importedModules R.prog.main.body) (fun s => xlAt q [] s && recOk R.toRowW.records s) x.2.abs, ts.map (fun t => He.dicW (KK x) (t.1 (KK x))), ex (KK x))) = some ((openGood q loose, ts.map (fun t => some (He.keysIn (w.withFollow "special-get-raises" false).params t.2)), true)) := by kernel_rfl
theorem yCF (w : World) : (wholeF (fun p => stepQ (denQ tabQ) p (w.withFollow "special-get-raises" false)) fenceQ 20000 R.prog).map (fun x => fa.all fun f => f.ok (KK x)) = some (true) := by kernel_rfl
theorem yDF (w : World) : (wholeF (fun p => stepQ (denQ tabQ) p (w.withFollow "special-get-raises" false)) fenceQ 20000 R.prog).map (fun x => (fn.all fun d => d.ok (KK x), fn.map fun d => He.fnW (KK x) d.at_)) = some ((true, fn.map He.DefD.val)) := by kernel_rfl
theorem yAT (w : World) : (wholeF (fun p => stepQ (denQ tabQ) p (w.withFollow "special-get-raises" true)) fenceQ 20000 R.prog).map (fun x => HandSHeadRun.looksF R.prog x.1.heap x.2.abs) = some (true) := by kernel_rfl
theorem yBT (w : World) : (wholeF (fun p => stepQ (denQ tabQ) p (w.withFollow "special-get-raises" true)) fenceQ 20000 R.prog).map (fun x => (HandSHeadRun.seenQ q loose (importedModules R.prog.main.body) (fun s => xlAt q [] s && recOk R.toRowW.records s) x.2.abs, ts.map (fun t => He.dicW (KK x) (t.1 (KK x))), ex (KK x))) = some ((openGood q loose, ts.map (fun t => some (He.keysIn (w.withFollow "special-get-raises" true).params t.2)), true)) := by kernel_rfl
theorem yCT (w : World) : (wholeF (fun p => stepQ (denQ tabQ) p (w.withFollow "special-get-raises" true)) fenceQ 20000 R.prog).map (fun x => fa.all fun f => f.ok (KK x)) = some (true) := by kernel_rfl
theorem yDT (w : World) : (wholeF (fun p => stepQ (denQ tabQ) p (w.withFollow "special-get-raises" true)) fenceQ 20000 R.prog).map (fun x => (fn.all fun d => d.ok (KK x), fn.map fun d => He.fnW (KK x) d.at_)) = some ((true, fn.map He.DefD.val)) := by kernel_rfl
theorem join {α β γ δ ε ζ η : Type} {o : Option α} {fA : α → β} {fB : α → γ} {fE : α → ε} {fC : α → δ} {fD : α → ζ} {g : α → η} {a : β} {b : γ} {e : ε} {c : δ} {d : ζ} {v : η} (hA : o.map (fun x => fA x) = some a) (hB : o.map (fun x => (fB x, fE x)) = some (b, e)) (hC : o.map (fun x => fC x) = some c) (hD : o.map (fun x => fD x) = some d)
    (hg : ∀ x, fC x = c → fD x = d → fE x = e → g x = v) : o.map (fun x => (fA x, fB x, g x)) = some (a, b, v) := by
  cases o with
  | none => cases hA
  | some x =>
    have e1 : fA x = a := Option.some.inj hA
    have e2 : (fB x, fE x) = (b, e) := Option.some.inj hB
    have e3 : fC x = c := Option.some.inj hC
    have e4 : fD x = d := Option.some.inj hD
    obtain ⟨e5, e6⟩ := Prod.mk.inj e2
    have e7 := hg x e3 e4 e6
    show some (fA x, fB x, g x) = some (a, b, v)
    rw [e1, e5, e7]
theorem run (w : World) : HandSHeadRun.RunEqI R q hk ob 20000 loose w := by
  refine PySem.W.byRow2 "special-get-raises" (P := fun w => HandSHeadRun.RunEqI R q hk ob 20000 loose w) (fun w => ?_) (fun w => ?_) w
  · unfold HandSHeadRun.RunEqI
    exact join (η := hk.α) (yAF w) (yBF w) (yCF w) (yDF w) (fun x h1 h2 h3 => obs_of (K := KK x) h1 h2 h3)
  · unfold HandSHeadRun.RunEqI
    exact join (η := hk.α) (yAT w) (yBT w) (yCT w) (yDT w) (fun x h1 h2 h3 => obs_of (K := KK x) h1 h2 h3)
end SpH
end
section
set_option Elab.async false
set_option linter.all false
set_option maxRecDepth 100000
/-! Part A: data, the store of what may change, what stands in the heap. -/
namespace Sp
open PySem L2

/-- data: what an expression is worth -/
inductive D where
  | non | bl (b : Bool) | int (i : Int) | str (x : Str)
  | tup (xs : List D) | lst (xs : List D)
  /-- an instance of the class number c, its fields in order -/
  | ins (c : Nat) (ds : List D)
  /-- the law's script -/
  | scr (ns : List Int)
  /-- an object that may change; the store tells what it holds -/
  | adr (a : Addr)

abbrev Mem := Addr → Option D
def Mem.set (M : Mem) (a : Addr) (d : D) : Mem := fun b => if b = a then some d else M b
def Mem.del (M : Mem) (a : Addr) : Mem := fun b => if b = a then none else M b
theorem Mem.set_same {M : Mem} {a : Addr} {d : D} : (M.set a d) a = some d := by simp [Mem.set]
theorem Mem.set_ne {M : Mem} {a b : Addr} {d : D} (h : b ≠ a) : (M.set a d) b = M b := by simp [Mem.set, h]
theorem Mem.del_same {M : Mem} {a : Addr} : (M.del a) a = none := by simp [Mem.del]
theorem Mem.del_ne {M : Mem} {a b : Addr} (h : b ≠ a) : (M.del a) b = M b := by simp [Mem.del, h]
theorem Mem.set_del {M : Mem} {a : Addr} {d : D} (h : M a = none) : (M.set a d).del a = M := by
  funext b
  by_cases e : b = a
  · subst e; simp [Mem.del, h]
  · simp [Mem.del, Mem.set, e]
theorem Mem.set_set {M : Mem} {a : Addr} {d e : D} : (M.set a d).set a e = M.set a e := by
  funext b
  by_cases h : b = a
  · simp [Mem.set, h]
  · simp [Mem.set, h]

/-! ### the program's classes and their fields (numbers of ours) -/
/-- the fields' names -/
def fnames : List Str := (["dims", "speed", "drift", "per", "source", "moment", "kind", "low", "high", "late", "near", "root", "liars", "share", "earliest", "latest"] : List Str) ++
  (["left", "barred", "cover", "used", "tree", "known", "trees", "steps", "must", "cannot", "lies", "tells", "names", "before", "after", "setting", "question", "readings"] : List Str) ++ (["plan", "held", "moments", "grain", "most", "without"] : List Str)
def fname (f : Nat) : Str := fnames.getD f ""
/-- the classes: their names, their fields in the order in which __init__ stores them -/
def cnames : List Str := ["Setting", "Reading", "Question", "Marks", "Held", "Known", "Paper", "Standing", "Row", "Knowing", "Plan"]
def cf : Nat → List Nat
  | 0 => [0, 1, 2, 3]
  | 1 => [4, 5, 6, 7, 8, 9, 10]
  | 2 => [5, 11, 12, 13, 14, 15]
  | 3 => [16, 17]
  | 4 => [5, 18, 19]
  | 5 => [5, 18, 20]
  | 6 => [21, 22, 23]
  | 7 => [24, 25, 26, 27]
  | 8 => [28, 29, 30]
  | 9 => [31, 32, 33, 34, 21, 35]
  | 10 => [36, 37, 38, 39]
  | _ => []
def cname (c : Nat) : Str := cnames.getD c ""
/-- the fields' names of a class -/
def cn (c : Nat) : List Str := (cf c).map fname
/-- where a field stands -/
def fpos (c f : Nat) : Option Nat := (cf c).findIdx? (· == f)

/-- all that is fixed: the program, what its top has left -/
structure Gc where
  P : Program
  w : World
  K : PySem.W.Frag
  mg : Str → Option Value
  base : Heap
  ca : Nat → Addr

mutual
/-- the value v is the data d -/
def Is (G : Gc) (H : Hp) : D → V → Prop
  | .non, v => v = .non
  | .bl b, v => v = .bl b
  | .int i, v => v = .int i
  | .str x, v => v = .str x
  | .tup ds, v => ∃ a vs, v = .ref a ∧ SqT G.K H a vs ∧ IsL G H ds vs
  | .lst ds, v => ∃ a vs, v = .ref a ∧ H a = some (.lst vs) ∧ IsL G H ds vs
  | .ins c ds, v => ∃ a dx vs, v = .ref a ∧ H a = some (.ins (G.ca c) dx ((cn c).zip vs)) ∧ IsL G H ds vs
  | .scr ns, v => ∃ a, v = .ref a ∧ SqL G.K H a (ns.map V.int)
  | .adr a, v => v = .ref a
def IsL (G : Gc) (H : Hp) : List D → List V → Prop
  | [], vs => vs = []
  | d :: ds, vs => ∃ v r, vs = v :: r ∧ Is G H d v ∧ IsL G H ds r
end

abbrev Ex := Evl.Ex
section
variable {G : Gc} {H H' : Hp} {M M' : Mem}
mutual
theorem Is.mono (e : Ex H H') : ∀ {d : D} {v : V}, Is G H d v → Is G H' d v
  | .non, v, h => h
  | .bl b, v, h => h
  | .int i, v, h => h
  | .str x, v, h => h
  | .tup ds, v, h => by
    obtain ⟨a, vs, h1, h2, h3⟩ := h
    exact ⟨a, vs, h1, Evl.ex_t e h2, IsL.mono e h3⟩
  | .lst ds, v, h => by
    obtain ⟨a, vs, h1, h2, h3⟩ := h
    exact ⟨a, vs, h1, e _ _ h2, IsL.mono e h3⟩
  | .ins c ds, v, h => by
    obtain ⟨a, dx, vs, h1, h2, h3⟩ := h
    exact ⟨a, dx, vs, h1, e _ _ h2, IsL.mono e h3⟩
  | .scr ns, v, h => by
    obtain ⟨a, h1, h2⟩ := h
    exact ⟨a, h1, Evl.ex_l e h2⟩
  | .adr a, v, h => h
theorem IsL.mono (e : Ex H H') : ∀ {ds : List D} {vs : List V}, IsL G H ds vs → IsL G H' ds vs
  | [], vs, h => h
  | d :: ds, vs, h => by
    obtain ⟨v, r, h1, h2, h3⟩ := h
    exact ⟨v, r, h1, Is.mono e h2, IsL.mono e h3⟩
end
theorem IsL.nil : IsL G H [] [] := rfl
theorem IsL.cons {d : D} {ds : List D} {v : V} {vs : List V} (h : Is G H d v) (t : IsL G H ds vs) : IsL G H (d :: ds) (v :: vs) := ⟨v, vs, rfl, h, t⟩
theorem IsL.length : ∀ {ds : List D} {vs : List V}, IsL G H ds vs → ds.length = vs.length
  | [], vs, h => by cases h; rfl
  | d :: ds, vs, h => by
    obtain ⟨v, r, rfl, _, h3⟩ := h
    simp [IsL.length h3]
theorem IsL.get : ∀ {ds : List D} {vs : List V} {i : Nat} {d : D}, IsL G H ds vs → ds[i]? = some d → ∃ v, vs[i]? = some v ∧ Is G H d v
  | [], vs, i, d, h, e => by simp at e
  | d :: ds, vs, 0, d', h, e => by
    obtain ⟨v, r, rfl, h2, h3⟩ := h
    simp at e; subst e
    exact ⟨v, by simp, h2⟩
  | d :: ds, vs, i + 1, d', h, e => by
    obtain ⟨v, r, rfl, h2, h3⟩ := h
    obtain ⟨w, h4, h5⟩ := IsL.get h3 (by simpa using e)
    exact ⟨w, by simpa using h4, h5⟩
theorem IsL.get' : ∀ {ds : List D} {vs : List V} {i : Nat} {v : V}, IsL G H ds vs → vs[i]? = some v → ∃ d, ds[i]? = some d ∧ Is G H d v
  | [], vs, i, v, h, e => by cases h; simp at e
  | d :: ds, vs, 0, v', h, e => by
    obtain ⟨v, r, rfl, h2, h3⟩ := h
    simp at e; subst e
    exact ⟨d, by simp, h2⟩
  | d :: ds, vs, i + 1, v', h, e => by
    obtain ⟨v, r, rfl, h2, h3⟩ := h
    obtain ⟨w, h4, h5⟩ := IsL.get' h3 (by simpa using e)
    exact ⟨w, by simpa using h4, h5⟩
theorem IsL.append : ∀ {ds es : List D} {vs ws : List V}, IsL G H ds vs → IsL G H es ws → IsL G H (ds ++ es) (vs ++ ws)
  | [], es, vs, ws, h, h' => by cases h; exact h'
  | d :: ds, es, vs, ws, h, h' => by
    obtain ⟨v, r, rfl, h2, h3⟩ := h
    exact ⟨v, r ++ ws, rfl, h2, IsL.append h3 h'⟩
theorem IsL.take : ∀ {ds : List D} {vs : List V} (n : Nat), IsL G H ds vs → IsL G H (ds.take n) (vs.take n)
  | [], vs, n, h => by cases h; simp [IsL]
  | d :: ds, vs, 0, h => by simp [IsL]
  | d :: ds, vs, n + 1, h => by
    obtain ⟨v, r, rfl, h2, h3⟩ := h
    exact ⟨v, r.take n, rfl, h2, IsL.take n h3⟩
theorem IsL.drop : ∀ {ds : List D} {vs : List V} (n : Nat), IsL G H ds vs → IsL G H (ds.drop n) (vs.drop n)
  | [], vs, n, h => by cases h; simp [IsL]
  | d :: ds, vs, 0, h => h
  | d :: ds, vs, n + 1, h => by
    obtain ⟨v, r, rfl, h2, h3⟩ := h
    exact IsL.drop n h3
theorem IsL.reverse : ∀ {ds : List D} {vs : List V}, IsL G H ds vs → IsL G H ds.reverse vs.reverse
  | [], vs, h => by cases h; simp [IsL]
  | d :: ds, vs, h => by
    obtain ⟨v, r, rfl, h2, h3⟩ := h
    rw [List.reverse_cons, List.reverse_cons]
    exact (IsL.reverse h3).append (IsL.cons h2 IsL.nil)
theorem IsL.set : ∀ {ds : List D} {vs : List V} {d : D} {v : V} (i : Nat), IsL G H ds vs → Is G H d v → IsL G H (ds.set i d) (vs.set i v)
  | [], vs, d, v, i, h, h' => by cases h; simp [IsL]
  | d :: ds, vs, d', v', 0, h, h' => by
    obtain ⟨v, r, rfl, h2, h3⟩ := h
    exact ⟨v', r, rfl, h', h3⟩
  | d :: ds, vs, d', v', i + 1, h, h' => by
    obtain ⟨v, r, rfl, h2, h3⟩ := h
    exact ⟨v, r.set i v', rfl, h2, IsL.set i h3 h'⟩
theorem IsL.dropLast {ds : List D} {vs : List V} (h : IsL G H ds vs) : IsL G H ds.dropLast vs.dropLast := by
  rw [List.dropLast_eq_take, List.dropLast_eq_take, h.length]
  exact h.take _
theorem IsL.rep {d : D} {v : V} (h : Is G H d v) : ∀ n : Nat, IsL G H (List.replicate n d) (List.replicate n v)
  | 0 => rfl
  | n + 1 => ⟨v, _, rfl, h, IsL.rep h n⟩
theorem IsL.ints : ∀ {ns : List Int} {vs : List V}, IsL G H (ns.map D.int) vs → vs = ns.map V.int
  | [], vs, h => h
  | n :: ns, vs, h => by
    obtain ⟨v, r, rfl, h2, h3⟩ := h
    have h2 : v = .int n := h2
    rw [h2, IsL.ints h3]; rfl
theorem IsL.ofInts : ∀ {ns : List Int}, IsL G H (ns.map D.int) (ns.map V.int)
  | [] => rfl
  | n :: ns => ⟨.int n, _, rfl, rfl, IsL.ofInts⟩
theorem IsL.bls : ∀ {bs : List Bool} {vs : List V}, IsL G H (bs.map D.bl) vs → vs = bs.map V.bl
  | [], vs, h => h
  | n :: ns, vs, h => by
    obtain ⟨v, r, rfl, h2, h3⟩ := h
    have h2 : v = .bl n := h2
    rw [h2, IsL.bls h3]; rfl

/-! ### the heap without what may change -/
def cut (M : Mem) (H : Hp) : Hp := fun a => if (M a).isSome then none else H a
theorem cut_some {a : Addr} {o : HO} (h : cut M H a = some o) : M a = none ∧ H a = some o := by
  unfold cut at h
  split at h
  · cases h
  · rename_i hn
    exact ⟨by simpa using hn, h⟩
theorem cut_of {a : Addr} {o : HO} (h : M a = none) (e : H a = some o) : cut M H a = some o := by simp [cut, h, e]
theorem cut_le : Ex (cut M H) H := fun a o h => (cut_some h).2
theorem cut_mono (e : Ex H H') : Ex (cut M H) (cut M H') := fun a o h => by
  obtain ⟨h1, h2⟩ := cut_some h
  exact cut_of h1 (e _ _ h2)

/-- what the store says stands in the heap -/
def MIs (G : Gc) (M : Mem) (H : Hp) : Prop := ∀ a d, M a = some d →
  (∃ xs vs, d = .lst xs ∧ H a = some (.lst vs) ∧ IsL G (cut M H) xs vs) ∨
  (∃ c ds dx vs, d = .ins c ds ∧ H a = some (.ins (G.ca c) dx ((cn c).zip vs)) ∧ IsL G (cut M H) ds vs ∧ ds.length ≤ (cn c).length)
theorem MIs.there (m : MIs G M H) {a : Addr} {d : D} (h : M a = some d) : ∃ o, H a = some o := by
  rcases m a d h with ⟨_, _, _, e, _⟩ | ⟨_, _, _, _, _, e, _⟩
  · exact ⟨_, e⟩
  · exact ⟨_, e⟩
theorem MIs.free (m : MIs G M H) {a : Addr} (h : H a = none) : M a = none := by
  cases e : M a with
  | none => rfl
  | some d =>
    obtain ⟨o, q⟩ := m.there e
    rw [h] at q; cases q
theorem MIs.mono (m : MIs G M H) (e : Ex H H') : MIs G M H' := fun a d h => by
  rcases m a d h with ⟨xs, vs, h1, h2, h3⟩ | ⟨c, ds, dx, vs, h1, h2, h3, h4⟩
  · exact .inl ⟨xs, vs, h1, e _ _ h2, h3.mono (cut_mono e)⟩
  · exact .inr ⟨c, ds, dx, vs, h1, e _ _ h2, h3.mono (cut_mono e), h4⟩
theorem MIs.lst (m : MIs G M H) {a : Addr} {xs : List D} (h : M a = some (.lst xs)) : ∃ vs, H a = some (.lst vs) ∧ IsL G (cut M H) xs vs := by
  rcases m a _ h with ⟨xs', vs, h1, h2, h3⟩ | ⟨c, ds, dx, vs, h1, _⟩
  · cases h1; exact ⟨vs, h2, h3⟩
  · cases h1
theorem MIs.ins (m : MIs G M H) {a : Addr} {c : Nat} {ds : List D} (h : M a = some (.ins c ds)) : ∃ dx vs, H a = some (.ins (G.ca c) dx ((cn c).zip vs)) ∧ IsL G (cut M H) ds vs ∧ ds.length ≤ (cn c).length := by
  rcases m a _ h with ⟨xs', vs, h1, h2, h3⟩ | ⟨c', ds', dx, vs, h1, h2, h3, h4⟩
  · cases h1
  · cases h1; exact ⟨dx, vs, h2, h3, h4⟩
/-- what is set aside no more -/
theorem cut_del {a : Addr} : Ex (cut M H) (cut (M.del a) H) := fun b o h => by
  obtain ⟨h1, h2⟩ := cut_some h
  refine cut_of ?_ h2
  by_cases e : b = a
  · rw [e]; exact Mem.del_same
  · rw [Mem.del_ne e]; exact h1
theorem MIs.del (m : MIs G M H) (a : Addr) : MIs G (M.del a) H := fun b d h => by
  have e : b ≠ a := fun e => by rw [e, Mem.del_same] at h; cases h
  rw [Mem.del_ne e] at h
  rcases m b d h with ⟨xs, vs, h1, h2, h3⟩ | ⟨c, ds, dx, vs, h1, h2, h3, h4⟩
  · exact .inl ⟨xs, vs, h1, h2, h3.mono cut_del⟩
  · exact .inr ⟨c, ds, dx, vs, h1, h2, h3.mono cut_del, h4⟩
/-- a new address is not in the store: the cut heap grows with the heap -/
theorem cut_upd {a : Addr} {o : HO} (h : M a = none) : cut M (upd H a o) = upd (cut M H) a o := by
  funext b
  by_cases e : b = a
  · subst e; simp [cut, upd, h]
  · simp [cut, upd, e]
/-- an object of the store is written: the cut heap is as it was -/
theorem cut_set {a : Addr} {o : HO} {d : D} : cut (M.set a d) (upd H a o) = cut (M.set a d) H := by
  funext b
  by_cases e : b = a
  · subst e; simp [cut, Mem.set]
  · simp [cut, upd, e]
theorem cut_set2 {a : Addr} {d e : D} (h : M a = some e) : cut (M.set a d) H = cut M H := by
  funext b
  by_cases q : b = a
  · subst q; simp [cut, Mem.set, h]
  · simp [cut, Mem.set, q]
theorem cut_setn {a : Addr} {d : D} (h : H a = none) : cut (M.set a d) H = cut M H := by
  funext b
  by_cases q : b = a
  · subst q; simp [cut, h]
  · simp [cut, Mem.set, q]
/-- a new object, set aside -/
theorem MIs.new (m : MIs G M H) {a : Addr} {xs : List D} {vs : List V} (hn : H a = none) (h : IsL G (cut M H) xs vs) : MIs G (M.set a (.lst xs)) (upd H a (.lst vs)) := fun b d e => by
  have ec : cut (M.set a (.lst xs)) (upd H a (.lst vs)) = cut M H := cut_set.trans (cut_setn hn)
  rw [ec]
  by_cases q : b = a
  · subst q
    rw [Mem.set_same] at e; cases e
    exact .inl ⟨xs, vs, rfl, upd_same, h⟩
  · rw [Mem.set_ne q] at e
    rw [upd_ne q]
    exact m b d e
/-- a list of the store gets other items -/
theorem MIs.put (m : MIs G M H) {a : Addr} {d : D} {xs : List D} {vs : List V} (hm : M a = some d) (h : IsL G (cut M H) xs vs) : MIs G (M.set a (.lst xs)) (upd H a (.lst vs)) := fun b e he => by
  have ec : cut (M.set a (.lst xs)) (upd H a (.lst vs)) = cut M H := cut_set.trans (cut_set2 hm)
  rw [ec]
  by_cases q : b = a
  · subst q
    rw [Mem.set_same] at he; cases he
    exact .inl ⟨xs, vs, rfl, upd_same, h⟩
  · rw [Mem.set_ne q] at he
    rw [upd_ne q]
    exact m b e he
theorem MIs.putI (m : MIs G M H) {a dx : Addr} {d : D} {c : Nat} {ds : List D} {vs : List V} (hm : M a = some d) (h : IsL G (cut M H) ds vs) (hl : ds.length ≤ (cn c).length) :
    MIs G (M.set a (.ins c ds)) (upd H a (.ins (G.ca c) dx ((cn c).zip vs))) := fun b e he => by
  have ec : cut (M.set a (.ins c ds)) (upd H a (.ins (G.ca c) dx ((cn c).zip vs))) = cut M H := cut_set.trans (cut_set2 hm)
  rw [ec]
  by_cases q : b = a
  · subst q
    rw [Mem.set_same] at he; cases he
    exact .inr ⟨c, ds, dx, vs, rfl, upd_same, h, hl⟩
  · rw [Mem.set_ne q] at he
    rw [upd_ne q]
    exact m b e he
theorem MIs.newI (m : MIs G M H) {a dx : Addr} {c : Nat} (hn : H a = none) : MIs G (M.set a (.ins c [])) (upd H a (.ins (G.ca c) dx [])) := fun b e he => by
  have ec : cut (M.set a (.ins c [])) (upd H a (.ins (G.ca c) dx [])) = cut M H := cut_set.trans (cut_setn hn)
  rw [ec]
  by_cases q : b = a
  · subst q
    rw [Mem.set_same] at he; cases he
    exact .inr ⟨c, [], dx, [], rfl, by rw [upd_same]; simp, rfl, Nat.zero_le _⟩
  · rw [Mem.set_ne q] at he
    rw [upd_ne q]
    exact m b e he
/-- a list of the store is taken as data -/
theorem MIs.freeze (m : MIs G M H) {a : Addr} {xs : List D} (h : M a = some (.lst xs)) : Is G (cut (M.del a) H) (.lst xs) (.ref a) := by
  obtain ⟨vs, h1, h2⟩ := m.lst h
  exact ⟨a, vs, rfl, cut_of Mem.del_same h1, h2.mono cut_del⟩
theorem MIs.freezeI (m : MIs G M H) {a : Addr} {c : Nat} {ds : List D} (h : M a = some (.ins c ds)) : Is G (cut (M.del a) H) (.ins c ds) (.ref a) := by
  obtain ⟨dx, vs, h1, h2, _⟩ := m.ins h
  exact ⟨a, dx, vs, rfl, cut_of Mem.del_same h1, h2.mono cut_del⟩

/-! ### a state -/
abbrev Rho := List (Option D)
structure StIs (G : Gc) (M : Mem) (H : Hp) (σ : L2.St) (ρ : Rho) : Prop where
  mem : MIs G M H
  loc : ∀ (i : Nat) (d : D), ρ[i]? = some (some d) → ∃ v, σ[i]? = some (some v) ∧ Is G (cut M H) d v
  len : ρ.length = σ.length
/-- what came about between two states: nothing that was fixed has changed -/
def Rch (M : Mem) (H : Hp) (M' : Mem) (H' : Hp) : Prop := Ex (cut M H) (cut M' H')
theorem Rch.refl : Rch M H M H := Evl.Ex.refl _
theorem Rch.trans {M1 M2 M3 : Mem} {H1 H2 H3 : Hp} (a : Rch M1 H1 M2 H2) (b : Rch M2 H2 M3 H3) : Rch M1 H1 M3 H3 := Evl.Ex.trans a b
theorem Rch.of (e : Ex H H') : Rch M H M H' := cut_mono e
theorem StIs.step {σ : L2.St} {ρ : Rho} (s : StIs G M H σ ρ) (r : Rch M H M' H') (m : MIs G M' H') : StIs G M' H' σ ρ :=
  ⟨m, fun i d h => let ⟨v, h1, h2⟩ := s.loc i d h; ⟨v, h1, h2.mono r⟩, s.len⟩
theorem StIs.set {σ : L2.St} {ρ : Rho} {d : D} {v : V} (s : StIs G M H σ ρ) (i : Nat) (h : Is G (cut M H) d v) : StIs G M H (σ.set i (some v)) (ρ.set i (some d)) := by
  refine ⟨s.mem, fun j e hj => ?_, by rw [List.length_set, List.length_set, s.len]⟩
  by_cases q : i = j
  · subst q
    by_cases hl : i < ρ.length
    · rw [List.getElem?_set_self hl] at hj
      cases hj
      exact ⟨v, by rw [List.getElem?_set_self (by rw [← s.len]; exact hl)], h⟩
    · rw [List.getElem?_eq_none (by simpa using hl)] at hj; cases hj
  · rw [List.getElem?_set_ne q] at hj
    obtain ⟨w, h1, h2⟩ := s.loc j e hj
    exact ⟨w, by rw [List.getElem?_set_ne q]; exact h1, h2⟩
end
end Sp
end
section
set_option Elab.async false
set_option linter.all false
set_option maxRecDepth 100000
/-! Part B: expressions and statements of ours, that they match the text's, and what they want (weakest wishes over data). -/
namespace Sp
open PySem L2

inductive O2 where | add | sub | mul | fdiv | mod
inductive C2 where | lt | le | gt | ge | eq | ne | isin | notin
inductive Bi where | len | max | min | sum | all | any | abs | int | tuple | isqrt | sorted
inductive T where | one (i : Nat) | tup (is : List Nat)
/-- what a def does: the arguments, the store, the wish -/
abbrev Sm := List D → Mem → (D → Mem → Prop) → Prop
/-- a def as it is called: its name, the number of positional arguments, the keywords written -/
structure Ent where
  name : Str
  n : Nat
  kws : List Str
  sem : Sm

mutual
inductive E where
  | var (i : Nat) | int (i : Int) | str (x : Str) | non | bl (b : Bool)
  | glob (g : Nat)
  | op (o : O2) (a b : E) | neg (a : E)
  | cmp (c : C2) (a b : E) | isN (a : E) | notN (a : E)
  | ch2 (c c' : C2) (a b d : E) | ch3 (c c' c'' : C2) (a b d e : E)
  | and (a b : E) | or (a b : E) | not (a : E) | ife (c a b : E)
  | attr (a : E) (f : Nat) | idx (a i : E)
  | slLo (a lo : E) | slHi (a hi : E) | slB (a lo hi : E) | rev (a : E)
  | lst (es : Es) | lstM (es : Es) | tup (es : Es) | repM (x n : E)
  | lc (elt : E) (t : T) (it : It) (c : E) (m : Bool)
  | call (f : Ent) (es ks : Es)
  | meth (c : Nat) (f : Ent) (o : E) (es : Es)
  | bi (b : Bi) (es : Es)
  | isP (a : E) | inP (a : E)
  | pop (l : E)
  | frz (a : E)
inductive Es where | nil | cons (e : E) (r : Es)
inductive It where | seq (e : E) | seqM (e : E) | rng1 (e : E) | rng2 (a b : E) | zip (a b : E) | enum (e : E)
end
mutual
inductive S where
  | asg (i : Nat) (e : E) | asgT (is : List Nat) (e : E) | asgX (a i e : E) | fld (a : E) (f : Nat) (e : E)
  | aug (i : Nat) (e : E) | app (l e : E) | exp (e : E)
  | iff (c : E) (a b : Ss) | forr (t : T) (it : It) (b : Ss) | whil (c : E) (b : Ss)
  | ret (e : E) | brk | nev
inductive Ss where | nil | cons (s : S) (r : Ss)
end

/-! ### the module's constants -/
def gname : Nat → Str
  | 0 => "MOST" | 1 => "MOST_SIGNS" | 2 => "SIGNS" | 3 => "MOST_VALUE" | 4 => "MOST_DIRECTION" | 5 => "MOST_BOXES" | 6 => "MOST_LIARS"
  | 7 => "MOST_DEEP" | 8 => "MOST_CUTS" | 9 => "LOOKS" | 10 => "MOST_MOMENTS" | 11 => "MOST_LISTS" | _ => ""
def gval : Nat → D
  | 0 => .int 1000000000000 | 1 => .int 64 | 2 => .str "abcdefghijklmnopqrstuvwxyz0123456789_-" | 3 => .int 1000000000000000 | 4 => .int 1000 | 5 => .int 16 | 6 => .int 3
  | 7 => .int 240 | 8 => .int 160 | 9 => .int 8 | 10 => .int 16 | 11 => .int 8 | _ => .non
def kinds4 : List Str := ["range", "clocked", "differ", "piece"]

/-! ### that they match the text -/
def O2.op : O2 → Operator | .add => .Add | .sub => .Sub | .mul => .Mult | .fdiv => .FloorDiv | .mod => .Mod
def C2.op : C2 → CmpOp | .lt => .Lt | .le => .LtE | .gt => .Gt | .ge => .GtE | .eq => .Eq | .ne => .NotEq | .isin => .In | .notin => .NotIn
def Bi.name : Bi → Str
  | .len => "len" | .max => "max" | .min => "min" | .sum => "sum" | .all => "all" | .any => "any" | .abs => "abs" | .int => "int" | .tuple => "tuple" | .isqrt => "isqrt" | .sorted => "sorted"
/-- what is looked at: the names by slot, the scope, whose cells are ours -/
structure Cc where
  N : List Str
  sc : Scope
  fb : Str → Bool
def Cc.vis (c : Cc) (i : Nat) (x : Str) : Bool :=
  decide (c.N[i]? = some x) && (match c.sc.names.lookup x with | some .local => true | some .cell => true | some .free => true | _ => false) && !(x == ("__debug__" : Str)) && !(x == ("__classdict__" : Str))
def Cc.sto (c : Cc) (i : Nat) (x : Str) : Bool :=
  decide (c.N[i]? = some x) && (match c.sc.names.lookup x with | some .local => true | some .cell => c.fb x | _ => false)
def Cc.glo (c : Cc) (x : Str) : Bool := decide (c.sc.names.lookup x = some .globalImplicit) && !(x == ("__debug__" : Str)) && !(x == ("__name__" : Str))
def Cc.blk (c : Cc) (scope : Scope) : Cc := ⟨c.N, relS scope c.sc, fun x => scope.names.lookup x == some .cell⟩
def T.own (N : List Str) : T → List (Str × Nat)
  | .one i => [((N[i]?).getD "", i)]
  | .tup is => is.map fun i => ((N[i]?).getD "", i)
def T.slots : T → List Nat
  | .one i => [i]
  | .tup is => is
def Cc.tns (c : Cc) : List Nat → List Expr → Bool
  | [], [] => true
  | i :: is, .Name x _ :: es => c.sto i x && c.tns is es
  | _, _ => false
def Cc.tg (c : Cc) : T → Expr → Bool
  | .one i, .Name x _ => c.sto i x
  | .tup is, .Tuple es _ _ => c.tns is es
  | _, _ => false
def notMark (op : CmpOp) (b : Expr) : Bool := match b with | .Set .. => false | _ => true

/-- what may stand as a test -/
def tst : E → Bool
  | .ife .. => false
  | .frz _ => false
  | .and a b => tst a && tst b
  | .or a b => tst a && tst b
  | .not a => tst a
  | _ => true
mutual
def chkE (c : Cc) : E → Expr → Bool
  | .var i, x₀ => match x₀ with
    | .Name x _ => c.vis i x
    | _ => false
  | .int i, x₀ => match x₀ with
    | .Constant (.int j) _ _ => decide (i = j)
    | _ => false
  | .str x, x₀ => match x₀ with
    | .Constant (.str y) _ _ => decide (x = y)
    | _ => false
  | .non, x₀ => match x₀ with
    | .Constant .none _ _ => true
    | _ => false
  | .bl b, x₀ => match x₀ with
    | .Constant (.bool b') _ _ => decide (b = b')
    | _ => false
  | .glob g, x₀ => match x₀ with
    | .Name x _ => decide (g < 12) && decide (x = gname g) && c.glo x
    | _ => false
  | .op o a b, x₀ => match x₀ with
    | .BinOp x p y _ => decide (p = o.op) && chkE c a x && chkE c b y
    | _ => false
  | .neg a, x₀ => match x₀ with
    | .UnaryOp .USub x _ => chkE c a x
    | _ => false
  | .cmp o a b, x₀ => match x₀ with
    | .Compare x [p] [y] _ => decide (p = o.op) && notMark p y && chkE c a x && chkE c b y
    | _ => false
  | .isN a, x₀ => match x₀ with
    | .Compare x [.Is] [.Constant .none _ _] _ => chkE c a x
    | _ => false
  | .notN a, x₀ => match x₀ with
    | .Compare x [.IsNot] [.Constant .none _ _] _ => chkE c a x
    | _ => false
  | .ch2 o o' a b d, x₀ => match x₀ with
    | .Compare x [p, p'] [y, z] _ => decide (p = o.op) && decide (p' = o'.op) && notMark p y && notMark p' z && chkE c a x && chkE c b y && chkE c d z
    | _ => false
  | .ch3 o o' o'' a b d e, x₀ => match x₀ with
    | .Compare x [p, p', p''] [y, z, u] _ => decide (p = o.op) && decide (p' = o'.op) && decide (p'' = o''.op) && notMark p y && notMark p' z && notMark p'' u && chkE c a x && chkE c b y && chkE c d z && chkE c e u
    | _ => false
  | .and a b, x₀ => match x₀ with
    | .BoolOp .And (x :: y :: r) p => chkE c a x && (match r with | [] => chkE c b y | _ => chkE c b (.BoolOp .And (y :: r) p))
    | _ => false
  | .or a b, x₀ => match x₀ with
    | .BoolOp .Or (x :: y :: r) p => chkE c a x && (match r with | [] => chkE c b y | _ => chkE c b (.BoolOp .Or (y :: r) p))
    | _ => false
  | .not a, x₀ => match x₀ with
    | .UnaryOp .Not x _ => chkE c a x
    | _ => false
  | .ife t a b, x₀ => match x₀ with
    | .IfExp z x y _ => tst t && chkE c t z && chkE c a x && chkE c b y
    | _ => false
  | .attr a f, x₀ => match x₀ with
    | .Attribute x m _ => decide (m = fname f) && chkE c a x
    | _ => false
  | .idx a i, x₀ => match x₀ with
    | .Subscript x y _ => chkE c a x && chkE c i y
    | _ => false
  | .slLo a lo, x₀ => match x₀ with
    | .Subscript x (.Slice (some y) none none _) _ => chkE c a x && chkE c lo y
    | _ => false
  | .slHi a hi, x₀ => match x₀ with
    | .Subscript x (.Slice none (some y) none _) _ => chkE c a x && chkE c hi y
    | _ => false
  | .slB a lo hi, x₀ => match x₀ with
    | .Subscript x (.Slice (some y) (some z) none _) _ => chkE c a x && chkE c lo y && chkE c hi z
    | _ => false
  | .rev a, x₀ => match x₀ with
    | .Subscript x (.Slice none none (some (.UnaryOp .USub (.Constant (.int 1) _ _) _)) _) _ => chkE c a x
    | _ => false
  | .lst es, x₀ => match x₀ with
    | .List xs _ => chkEs c es xs && decide (xs.length ≤ 100)
    | _ => false
  | .lstM es, x₀ => match x₀ with
    | .List xs _ => chkEs c es xs && decide (xs.length ≤ 100)
    | _ => false
  | .tup es, x₀ => match x₀ with
    | .Tuple xs _ _ => chkEs c es xs && decide (xs.length ≤ 100)
    | _ => false
  | .repM a n, x₀ => match x₀ with
    | .BinOp (.List [x] _) .Mult y _ => chkE c a x && chkE c n y
    | _ => false
  | .lc elt t it q _, x₀ => match x₀ with
    | .ListComp x [⟨tg, iter, ifs, 0⟩] scope _ => blkC c.N c.sc scope (t.own c.N) && chkIt c it iter tg && (c.blk scope).tg t tg && chkE (c.blk scope) elt x && tst q && decide (t.slots.Nodup) && (match ifs with | [] => (match q with | .bl true => true | _ => false) | [y] => chkE (c.blk scope) q y | _ => false)
    | _ => false
  | .call f es ks, x₀ => match x₀ with
    | .Call (.Name x _) (a :: as) kws _ => decide (x = f.name) && decide ((a :: as).length = f.n) && c.glo x && chkEs c es (a :: as) && chkKs c ks f.kws kws
    | _ => false
  | .meth _ f o es, x₀ => match x₀ with
    | .Call (.Attribute (.Name y p) m ap) (a :: as) [] cp => decide (m = f.name) && (ap.endLine == cp.line) && decide ((a :: as).length ≤ 20) && chkE c o (.Name y p) && chkEs c es (a :: as)
    | _ => false
  | .bi b es, x₀ => match x₀ with
    | .Call (.Name x _) (a :: as) [] _ => decide (x = b.name) && c.glo x && chkEs c es (a :: as)
    | _ => false
  | .isP a, x₀ => match x₀ with
    | .Call (.Name x _) [y, .Name z _] [] _ => decide (x = ("isinstance" : Str)) && decide (z = ("Paper" : Str)) && c.glo x && c.glo z && chkE c a y
    | _ => false
  | .inP a, x₀ => match x₀ with
    | .Compare x [.In] [.Name z _] _ => decide (z = ("POINTS" : Str)) && c.glo z && chkE c a x
    | _ => false
  | .pop l, x₀ => match x₀ with
    | .Call (.Attribute x m ap) [] [] cp => decide (m = ("pop" : Str)) && (ap.endLine == cp.line) && chkE c l x
    | _ => false
  | .frz a, x => chkE c a x
def chkEs (c : Cc) : Es → List Expr → Bool
  | .nil, [] => true
  | .cons e r, x :: xs => chkE c e x && chkEs c r xs
  | _, _ => false
def chkKs (c : Cc) : Es → List Str → List Keyword → Bool
  | .nil, [], [] => true
  | .cons e r, n :: ns, ⟨some m, x, _⟩ :: ks => decide (n = m) && chkE c e x && chkKs c r ns ks
  | _, _, _ => false
/-- what is walked; the last: the target -/
def chkIt (c : Cc) : It → Expr → Expr → Bool
  | .seq e, x, _ => chkE c e x
  | .seqM e, x, _ => chkE c e x
  | .rng1 e, x₀, _ => match x₀ with
    | .Call (.Name f _) [x] [] _ => decide (f = ("range" : Str)) && c.glo f && chkE c e x
    | _ => false
  | .rng2 a b, x₀, _ => match x₀ with
    | .Call (.Name f _) [x, y] [] _ => decide (f = ("range" : Str)) && c.glo f && chkE c a x && chkE c b y
    | _ => false
  | .zip a b, x₀, t₀ => match x₀, t₀ with
    | .Call (.Name f _) [x, y] [] _, .Tuple .. => decide (f = ("zip" : Str)) && c.glo f && chkE c a x && chkE c b y
    | _, _ => false
  | .enum e, x₀, t₀ => match x₀, t₀ with
    | .Call (.Name f _) [x] [] _, .Tuple .. => decide (f = ("enumerate" : Str)) && c.glo f && chkE c e x
    | _, _ => false
end
def isM : It → Bool | .seqM _ => true | _ => false
def noComp : Expr → Bool
  | .ListComp .. => false
  | .SetComp .. => false
  | .DictComp .. => false
  | _ => true
mutual
def chkS (c : Cc) : S → Stmt → Bool
  | .asg i e, x₀ => match x₀ with
    | .Assign [.Name x _] y _ => c.sto i x && chkE c e y && (match e with | .lc .. => true | _ => noComp y)
    | _ => false
  | .asgT is e, x₀ => match x₀ with
    | .Assign [.Tuple es _ _] y _ => c.tns is es && chkE c e y && noComp y && (match y with | .Tuple .. => false | _ => true)
    | _ => false
  | .asgX a i e, x₀ => match x₀ with
    | .Assign [.Subscript x y _] z _ => chkE c a x && chkE c i y && chkE c e z && noComp z
    | _ => false
  | .fld a f e, x₀ => match x₀ with
    | .Assign [.Attribute x m _] y _ => decide (m = fname f) && chkE c a x && chkE c e y && noComp y
    | _ => false
  | .aug i e, x₀ => match x₀ with
    | .AugAssign (.Name x _) .Add y _ => c.sto i x && chkE c e y
    | _ => false
  | .app l e, x₀ => match x₀ with
    | .Expr (.Call (.Attribute x m ap) [y] [] cp) _ => decide (m = ("append" : Str)) && (ap.endLine == cp.line) && chkE c l x && chkE c e y
    | _ => false
  | .exp e, x₀ => match x₀ with
    | .Expr y _ => chkE c e y && (match y with | .Call .. => true | _ => false)
    | _ => false
  | .iff q a b, x₀ => match x₀ with
    | .If x y z _ => tst q && chkE c q x && chkSs c a y && chkSs c b z
    | _ => false
  | .forr t it b, x₀ => match x₀ with
    | .For tg iter y [] _ => !isM it && chkIt c it iter tg && c.tg t tg && chkSs c b y
    | _ => false
  | .whil q b, x₀ => match x₀ with
    | .While x y [] _ => tst q && chkE c q x && chkSs c b y
    | _ => false
  | .ret e, x₀ => match x₀ with
    | .Return (some x) _ => chkE c e x
    | _ => false
  | .brk, x₀ => match x₀ with
    | .Break _ => true
    | _ => false
  | .nev, _ => true
def chkSs (c : Cc) : Ss → List Stmt → Bool
  | .nil, [] => true
  | .cons s r, x :: xs => chkS c s x && chkSs c r xs
  | _, _ => false
end

/-! ### what is wanted -/
/-- a list's items, where a list may be read -/
def lstOf (M : Mem) : D → Option (List D)
  | .lst xs => some xs
  | .adr a => (match M a with | some (.lst xs) => some xs | _ => none)
  | _ => none
def itemsOf (M : Mem) : D → Option (List D)
  | .tup xs => some xs
  | .scr ns => some (ns.map D.int)
  | d => lstOf M d
def cutA {α : Type} (xs : List α) (lo hi : Option Int) : List α := (xs.drop (HT.sIx xs.length 0 lo)).take (HT.sIx xs.length xs.length hi - HT.sIx xs.length 0 lo)
def opD (o : O2) (x y : D) (M : Mem) (P : D → Mem → Prop) : Prop :=
  match o, x, y with
  | .add, .int i, .int j => P (.int (i + j)) M
  | .sub, .int i, .int j => P (.int (i - j)) M
  | .mul, .int i, .int j => CMul i j ∧ P (.int (i * j)) M
  | .fdiv, .int i, .int j => (0 < j ∧ j < 1073741824) ∧ P (.int (i / j)) M
  | .mod, .int i, .int j => 0 < j ∧ P (.int (i % j)) M
  | .add, .tup xs, .tup ys => xs.length + ys.length ≤ 100000 ∧ P (.tup (xs ++ ys)) M
  | .add, .lst xs, .lst ys => xs.length + ys.length ≤ 100000 ∧ P (.lst (xs ++ ys)) M
  | _, _, _ => False
def flatD : D → Bool | .int _ => true | .str _ => true | _ => false
def eqD : D → D → Bool
  | .int i, .int j => decide (i = j)
  | .str x, .str y => decide (x = y)
  | .bl a, .bl b => decide (a = b)
  | _, _ => false
def scaD : D → D → Bool
  | .int _, .int _ => true | .str _, .str _ => true | .bl _, .bl _ => true | _, _ => false
def inD (x : D) (xs : List D) : Bool := xs.any fun y => eqD y x
def inStr (x y : Str) : Bool := !(Builtin.Str.occurrences y x 0 y.length 1).isEmpty
def cmpD (c : C2) (x y : D) (M : Mem) (P : Bool → Prop) : Prop :=
  match c, x, y with
  | .lt, .int i, .int j => P (decide (i < j))
  | .le, .int i, .int j => P (decide (i ≤ j))
  | .gt, .int i, .int j => P (decide (j < i))
  | .ge, .int i, .int j => P (decide (j ≤ i))
  | .eq, x, y => scaD x y = true ∧ P (eqD x y)
  | .ne, x, y => scaD x y = true ∧ P (!eqD x y)
  | .isin, .str a, .str b => P (inStr a b)
  | .isin, x, y => ∃ ys, itemsOf M y = some ys ∧ flatD x = true ∧ ys.all flatD = true ∧ (∀ ns, y ≠ .scr ns) ∧ P (inD x ys)
  | .notin, x, y => ∃ ys, itemsOf M y = some ys ∧ flatD x = true ∧ ys.all flatD = true ∧ (∀ ns, y ≠ .scr ns) ∧ P (!inD x ys)
  | _, _, _ => False
def truD (M : Mem) : D → Option Bool
  | .bl b => some b
  | .non => some false
  | .tup xs => some (!xs.isEmpty)
  | .scr _ => none
  | d => (lstOf M d).map fun xs => !xs.isEmpty
def noneD : D → Bool | .non => true | _ => false
def slD (M : Mem) (x : D) (lo hi : Option Int) (P : D → Prop) : Prop :=
  match x with
  | .tup xs => P (.tup (cutA xs lo hi))
  | x => ∃ xs, lstOf M x = some xs ∧ P (.lst (cutA xs lo hi))
def maxL : List Int → Int
  | [] => 0
  | i :: is => is.foldl max i
def minL : List Int → Int
  | [] => 0
  | i :: is => is.foldl min i
def biD (b : Bi) (ds : List D) (M : Mem) (P : D → Mem → Prop) : Prop :=
  match b, ds with
  | .len, [.str x] => x.length ≤ 100000 ∧ P (.int x.length) M
  | .len, [d] => ∃ xs, itemsOf M d = some xs ∧ P (.int xs.length) M
  | .max, [.int i, .int j] => P (.int (max i j)) M
  | .max, [.int i, .int j, .int k] => P (.int (max (max i j) k)) M
  | .max, [.int i, .int j, .int k, .int l, .int m] => P (.int (max (max (max (max i j) k) l) m)) M
  | .min, [.int i, .int j] => P (.int (min i j)) M
  | .min, [d] => ∃ ns : List Int, lstOf M d = some (ns.map D.int) ∧ ns ≠ [] ∧ P (.int (minL ns)) M
  | .sum, [d] => ∃ ns : List Int, lstOf M d = some (ns.map D.int) ∧ P (.int ns.sum) M
  | .all, [d] => ∃ bs : List Bool, lstOf M d = some (bs.map D.bl) ∧ P (.bl (bs.all id)) M
  | .any, [d] => ∃ bs : List Bool, lstOf M d = some (bs.map D.bl) ∧ P (.bl (bs.any id)) M
  | .abs, [.int i] => P (.int (if i < 0 then -i else i)) M
  | .int, [.int i] => P (.int i) M
  | .int, [.bl k] => P (.int (if k then 1 else 0)) M
  | .tuple, [.tup xs] => P (.tup xs) M
  | .tuple, [d] => ∃ xs, lstOf M d = some xs ∧ P (.tup xs) M
  | .isqrt, [.int i] => (0 ≤ i ∧ i < 2 ^ 64) ∧ P (.int ((Float64.isqrt i.toNat : Nat) : Int)) M
  | .sorted, [d] => ∃ ns : List Int, lstOf M d = some (ns.map D.int) ∧ ns.length < 64 ∧ ∀ ns' : List Int, ns'.Perm ns → ns'.Pairwise (· ≤ ·) → P (.lst (ns'.map D.int)) M
  | _, _ => False
def paperD : D → Option Bool
  | .non => some false
  | .tup _ => some false
  | .ins c _ => if c = 6 then some true else none
  | _ => none
/-- the signs of a text -/
def signs (x : Str) : List D := x.cps.toList.map fun c => D.str ⟨#[c]⟩
def walked : D → Option (List D)
  | .lst xs => some xs
  | .tup xs => some xs
  | .str x => some (signs x)
  | _ => none
def zipOk : D → D → Bool
  | .lst _, .lst _ => true
  | .tup _, .tup _ => true
  | .lst _, .tup _ => true
  | _, _ => false
def isStr : D → Bool | .str _ => true | _ => false
/-- what one store says, the other says, too -/
def Mem.le (M M' : Mem) : Prop := ∀ b d, M b = some d → M' b = some d
def setAll : List Nat → List D → Rho → Rho
  | i :: is, d :: ds, ρ => setAll is ds (ρ.set i (some d))
  | _, _, ρ => ρ
def bindT : T → D → Rho → (Rho → Prop) → Prop
  | .one i, d, ρ, R => R (ρ.set i (some d))
  | .tup is, d, ρ, R => ∃ xs, d = .tup xs ∧ xs.length = is.length ∧ R (setAll is xs ρ)
def wipeR (ρ : Rho) : List Nat → Rho
  | [] => ρ
  | v :: vs => (wipeR ρ vs).set v none

mutual
def wpE : E → Rho → Mem → (D → Mem → Prop) → Prop
  | .var i, ρ, M, P => ∃ d, ρ[i]? = some (some d) ∧ P d M
  | .int i, _, M, P => P (.int i) M
  | .str x, _, M, P => P (.str x) M
  | .non, _, M, P => P .non M
  | .bl b, _, M, P => P (.bl b) M
  | .glob g, _, M, P => P (gval g) M
  | .op o a b, ρ, M, P => wpE a ρ M fun x M1 => wpE b ρ M1 fun y M2 => opD o x y M2 P
  | .neg a, ρ, M, P => wpE a ρ M fun x M1 => ∃ i, x = .int i ∧ P (.int (-i)) M1
  | .cmp c a b, ρ, M, P => wpE a ρ M fun x M1 => wpE b ρ M1 fun y M2 => cmpD c x y M2 fun k => P (.bl k) M2
  | .isN a, ρ, M, P => wpE a ρ M fun x M1 => P (.bl (noneD x)) M1
  | .notN a, ρ, M, P => wpE a ρ M fun x M1 => P (.bl (!noneD x)) M1
  | .ch2 c c' a b d, ρ, M, P => wpE a ρ M fun x M1 => wpE b ρ M1 fun y M2 => cmpD c x y M2 fun k => if k = true then wpE d ρ M2 fun z M3 => cmpD c' y z M3 fun k' => P (.bl k') M3 else P (.bl false) M2
  | .ch3 c c' c'' a b d e, ρ, M, P => wpE a ρ M fun x M1 => wpE b ρ M1 fun y M2 => cmpD c x y M2 fun k => if k = true then wpE d ρ M2 fun z M3 => cmpD c' y z M3 fun k' =>
      if k' = true then wpE e ρ M3 fun u M4 => cmpD c'' z u M4 fun k'' => P (.bl k'') M4 else P (.bl false) M3 else P (.bl false) M2
  | .and a b, ρ, M, P => wpE a ρ M fun x M1 => ∃ k, x = .bl k ∧ if k = true then wpE b ρ M1 P else P (.bl false) M1
  | .or a b, ρ, M, P => wpE a ρ M fun x M1 => ∃ k, x = .bl k ∧ if k = true then P (.bl true) M1 else wpE b ρ M1 P
  | .not a, ρ, M, P => wpE a ρ M fun x M1 => ∃ k, truD M1 x = some k ∧ P (.bl (!k)) M1
  | .ife c a b, ρ, M, P => wpE c ρ M fun x M1 => ∃ k, x = .bl k ∧ if k = true then wpE a ρ M1 P else wpE b ρ M1 P
  | .attr a f, ρ, M, P => wpE a ρ M fun x M1 => ∃ c ds, x = .ins c ds ∧ ∃ p, fpos c f = some p ∧ ∃ d, ds[p]? = some d ∧ P d M1
  | .idx a i, ρ, M, P => wpE a ρ M fun x M1 => wpE i ρ M1 fun y M2 => ∃ k, y = .int k ∧ ∃ xs, itemsOf M2 x = some xs ∧ ∃ d, atI xs k = some d ∧ P d M2
  | .slLo a lo, ρ, M, P => wpE a ρ M fun x M1 => wpE lo ρ M1 fun y M2 => ∃ k, y = .int k ∧ slD M2 x (some k) none fun d => P d M2
  | .slHi a hi, ρ, M, P => wpE a ρ M fun x M1 => wpE hi ρ M1 fun y M2 => ∃ k, y = .int k ∧ slD M2 x none (some k) fun d => P d M2
  | .slB a lo hi, ρ, M, P => wpE a ρ M fun x M1 => wpE lo ρ M1 fun y M2 => ∃ k, y = .int k ∧ wpE hi ρ M2 fun z M3 => ∃ l, z = .int l ∧ slD M3 x (some k) (some l) fun d => P d M3
  | .rev a, ρ, M, P => wpE a ρ M fun x M1 => ∃ xs, lstOf M1 x = some xs ∧ P (.lst xs.reverse) M1
  | .lst es, ρ, M, P => wpEs es ρ M fun ds M1 => P (.lst ds) M1
  | .lstM es, ρ, M, P => wpEs es ρ M fun ds M1 => ∀ a, M1 a = none → P (.adr a) (M1.set a (.lst ds))
  | .tup es, ρ, M, P => wpEs es ρ M fun ds M1 => P (.tup ds) M1
  | .repM x n, ρ, M, P => wpE x ρ M fun d M1 => wpE n ρ M1 fun y M2 => ∃ k : Nat, y = .int (k : Int) ∧ k ≤ 100000 ∧ ∀ a, M2 a = none → P (.adr a) (M2.set a (.lst (List.replicate k d)))
  | .lc elt t it c m, ρ, M, P => wpIt it ρ M fun xs M1 => xs.length ≤ 100000 ∧ ∃ ys : List (Option D), ys.length = xs.length ∧
      (∀ (Ma : Mem) (i : Nat) (x : D), M1.le Ma → xs[i]? = some x → bindT t x (wipeR ρ t.slots) fun ρ2 => wpE c ρ2 Ma fun z M2 => M2 = Ma ∧ ∃ k, z = .bl k ∧
        if k = true then wpE elt ρ2 Ma fun y M3 => M3 = Ma ∧ ys[i]? = some (some y) else ys[i]? = some none) ∧
      if m = true then ∀ a, M1 a = none → P (.adr a) (M1.set a (.lst (ys.filterMap id))) else P (.lst (ys.filterMap id)) M1
  | .call f es ks, ρ, M, P => wpEs es ρ M fun ds M1 => wpEs ks ρ M1 fun zs M2 => f.sem (ds ++ zs) M2 P
  | .meth c f o es, ρ, M, P => wpE o ρ M fun x M1 => (∃ ds, x = .ins c ds) ∧ wpEs es ρ M1 fun ds M2 => f.sem (x :: ds) M2 P
  | .bi b es, ρ, M, P => wpEs es ρ M fun ds M1 => biD b ds M1 P
  | .isP a, ρ, M, P => wpE a ρ M fun x M1 => ∃ k, paperD x = some k ∧ P (.bl k) M1
  | .inP a, ρ, M, P => wpE a ρ M fun x M1 => ∃ s, x = .str s ∧ s ∈ kinds4 ∧ P (.bl true) M1
  | .pop l, ρ, M, P => wpE l ρ M fun x M1 => ∃ a xs d, x = .adr a ∧ M1 a = some (.lst xs) ∧ xs[xs.length - 1]? = some d ∧ P d (M1.set a (.lst xs.dropLast))
  | .frz e, ρ, M, P => wpE e ρ M fun x M1 => ∃ a d, x = .adr a ∧ M1 a = some d ∧ P d (M1.del a)
def wpEs : Es → Rho → Mem → (List D → Mem → Prop) → Prop
  | .nil, _, M, P => P [] M
  | .cons e r, ρ, M, P => wpE e ρ M fun d M1 => wpEs r ρ M1 fun ds M2 => P (d :: ds) M2
def wpIt : It → Rho → Mem → (List D → Mem → Prop) → Prop
  | .seq e, ρ, M, R => wpE e ρ M fun x M1 => ∃ xs, walked x = some xs ∧ R xs M1
  | .seqM e, ρ, M, R => wpE e ρ M fun x M1 => ∃ a xs, x = .adr a ∧ M1 a = some (.lst xs) ∧ R xs M1
  | .rng1 e, ρ, M, R => wpE e ρ M fun x M1 => ∃ n : Nat, x = .int (n : Int) ∧ n < 2 ^ 62 ∧ R ((List.range n).map fun (i : Nat) => D.int (i : Int)) M1
  | .rng2 a b, ρ, M, R => wpE a ρ M fun x M1 => wpE b ρ M1 fun y M2 => ∃ i j : Int, x = .int i ∧ y = .int j ∧ (-(2 ^ 62) ≤ i ∧ i < 2 ^ 62 ∧ -(2 ^ 62) ≤ j ∧ j < 2 ^ 62) ∧
      R ((List.range (j - i).toNat).map fun (k : Nat) => D.int (i + (k : Int))) M2
  | .zip a b, ρ, M, R => wpE a ρ M fun x M1 => wpE b ρ M1 fun y M2 => ∃ xs ys, walked x = some xs ∧ walked y = some ys ∧ zipOk x y = true ∧ R (List.zipWith (fun u v => .tup [u, v]) xs ys) M2
  | .enum e, ρ, M, R => wpE e ρ M fun x M1 => ∃ xs, walked x = some xs ∧ isStr x = false ∧ R (List.zipWith (fun (i : Nat) u => D.tup [.int (i : Int), u]) (List.range xs.length) xs) M1
end
/-- what is wanted behind a statement -/
structure Kn where
  nx : Rho → Mem → Prop
  rt : D → Mem → Prop
  bk : Rho → Mem → Prop := fun _ _ => False
  ct : Rho → Mem → Prop := fun _ _ => False
mutual
def wpS : S → Rho → Mem → Kn → Prop
  | .asg i e, ρ, M, K => wpE e ρ M fun d M1 => K.nx (ρ.set i (some d)) M1
  | .asgT is e, ρ, M, K => wpE e ρ M fun d M1 => ∃ xs, d = .tup xs ∧ xs.length = is.length ∧ K.nx (setAll is xs ρ) M1
  | .asgX a i e, ρ, M, K => wpE e ρ M fun d M1 => wpE a ρ M1 fun x M2 => wpE i ρ M2 fun y M3 => ∃ p xs k j, x = .adr p ∧ M3 p = some (.lst xs) ∧ y = .int k ∧ ixN xs.length k = some j ∧ K.nx ρ (M3.set p (.lst (xs.set j d)))
  | .fld a f e, ρ, M, K => wpE e ρ M fun d M1 => wpE a ρ M1 fun x M2 => ∃ p c ds, x = .adr p ∧ M2 p = some (.ins c ds) ∧ fpos c f = some ds.length ∧ K.nx ρ (M2.set p (.ins c (ds ++ [d])))
  | .aug i e, ρ, M, K => ∃ n : Int, ρ[i]? = some (some (.int n)) ∧ wpE e ρ M fun d M1 => ∃ m : Int, d = .int m ∧ K.nx (ρ.set i (some (.int (n + m)))) M1
  | .app l e, ρ, M, K => wpE l ρ M fun x M1 => (∃ a xs, x = .adr a ∧ M1 a = some (.lst xs)) ∧ wpE e ρ M1 fun d M2 => ∃ a xs, x = .adr a ∧ M2 a = some (.lst xs) ∧ xs.length < 100000 ∧ K.nx ρ (M2.set a (.lst (xs ++ [d])))
  | .exp e, ρ, M, K => wpE e ρ M fun _ M1 => K.nx ρ M1
  | .iff c a b, ρ, M, K => wpE c ρ M fun x M1 => ∃ k, truD M1 x = some k ∧ if k = true then wpSs a ρ M1 K else wpSs b ρ M1 K
  | .forr t it b, ρ, M, K => wpIt it ρ M fun xs M1 => ∃ I : Nat → Rho → Mem → Prop, I 0 ρ M1 ∧
      (∀ (i : Nat) (x : D) (ρ' : Rho) (M' : Mem), xs[i]? = some x → I i ρ' M' → bindT t x ρ' fun ρ2 => wpSs b ρ2 M' { nx := I (i + 1), ct := I (i + 1), bk := K.nx, rt := K.rt }) ∧
      ∀ ρ' M', I xs.length ρ' M' → K.nx ρ' M'
  | .whil c b, ρ, M, K => ∃ I : Nat → Rho → Mem → Prop, (∃ m, I m ρ M) ∧ ∀ m ρ' M', I m ρ' M' → wpE c ρ' M' fun x M1 => ∃ k, truD M1 x = some k ∧
      if k = true then wpSs b ρ' M1 { nx := fun ρ2 M2 => ∃ m', m' < m ∧ I m' ρ2 M2, ct := fun ρ2 M2 => ∃ m', m' < m ∧ I m' ρ2 M2, bk := K.nx, rt := K.rt } else K.nx ρ' M1
  | .ret e, ρ, M, K => wpE e ρ M K.rt
  | .brk, ρ, M, K => K.bk ρ M
  | .nev, _, _, _ => False
def wpSs : Ss → Rho → Mem → Kn → Prop
  | .nil, ρ, M, K => K.nx ρ M
  | .cons s r, ρ, M, K => wpS s ρ M { K with nx := fun ρ1 M1 => wpSs r ρ1 M1 K }
end
/-- a def's body, called -/
def run (n : Nat) (b : Ss) : Sm := fun ds M P => wpSs b (ds.map some ++ List.replicate (n - ds.length) none) M { nx := fun _ M' => P .non M', rt := P }
end Sp
end
section
set_option Elab.async false
set_option linter.all false
set_option maxRecDepth 100000
set_option maxHeartbeats 2000000
/-! Part R: a few rules more: chains of three, max of five, isqrt, what is walked whatever it is, zip of a list and a tuple, enumerate of a tuple. -/
namespace PySem
open Sem (wp)
open AutoSeq1 (wpAny_loadPart')
theorem spr_enum_newT (l : Addr) (items : Array Value) (n : Nat) (dct : Option Addr) (sl : Array (Option Value)) :
    Meets (Builtin.«enumerate.__new__» ⟨[.type "enumerate", .ref l], []⟩) (fun _ R s => s.heap.get? l = some { cls := .type "tuple", dict := dct, data := .seq items n, slots := sl } ∧
      R (.ok (.ret (.ref (s.heap.push { cls := .type "tuple_iterator", data := .fields #[.ref l, .int 0 0] }).objs.size)))
        { s with heap := (s.heap.push { cls := .type "tuple_iterator", data := .fields #[.ref l, .int 0 0] }).push { cls := .type "enumerate", data := .fields #[.none, .bool false, .ref s.heap.objs.size, rawInt 0, .none, .none] } }) :=
  .of_wp fun prog w A R s h => by
    obtain ⟨hp, g, d, tk, os⟩ := s; obtain ⟨hl, h⟩ := h
    have hsub := sub_enumerate
    have hL : Heap.IsTuple (Shared.heap ⟨hp, g, d, tk, os⟩) l items := ⟨_, hl, rfl, n, rfl⟩
    wp_walk using wpAny_loadPart' hl
    refine wpAny_stack_any fun st => wpAny_pure ?_
    split
    · rename_i c _ _ _ _ _
      cases (c == Value.type "enumerate")
      · wp_walk using wpAny_loadPart' hl, wpAny_pyIter_tuple hL
        exact ⟨_, rfl, h⟩
      · wp_walk using wpAny_loadPart' hl, wpAny_pyIter_tuple hL
        exact ⟨_, rfl, h⟩
    · wp_walk using wpAny_loadPart' hl, wpAny_pyIter_tuple hL
      exact ⟨_, rfl, h⟩
section
variable {prog : Program} {w : World} {A : Around} {E : Value → Shared → Prop} {s : Shared}
theorem spr_call_enumT {l : Addr} {items : Array Value} {Q : Value → Shared → Prop} (hL : s.heap.IsTuple l items)
    (h : ∀ h', IsEnum h' (s.heap.objs.size + 1) s.heap.objs.size 0 .none → h'.IsTupleIter s.heap.objs.size l 0 → h'.objs.size = s.heap.objs.size + 2 →
      (∀ b o, s.heap.get? b = some o → h'.get? b = some o) → Q (.ref (s.heap.objs.size + 1)) { s with heap := h' }) :
    wpAny (model prog w) A (call (.type "enumerate") [.ref l]) Q E s := by
  obtain ⟨⟨c, dct, dt, sl⟩, hl, hc, n, hd⟩ := hL
  replace hc : c = .type "tuple" := hc
  replace hd : dt = .seq items n := hd
  subst hc hd
  refine callType_new F.called_enumerate (by decide) (F.typeCall_enumerate_1 _) (F.newCall_enumerate_1 _) (fun obj => F.args_object_init_2 obj _) F.entry_enumerate_new
    (spr_enum_newT l items n dct sl) ⟨hl, ?_⟩
  have hz : (s.heap.push { cls := .type "tuple_iterator", data := .fields #[.ref l, .int 0 0] }).objs.size = s.heap.objs.size + 1 := Heap.size_push ..
  show _ ∧ _
  rw [hz]
  have he : IsEnum ((s.heap.push { cls := .type "tuple_iterator", data := .fields #[.ref l, .int 0 0] }).push
      { cls := .type "enumerate", data := .fields #[.none, .bool false, .ref s.heap.objs.size, rawInt 0, .none, .none] }) (s.heap.objs.size + 1) s.heap.objs.size 0 .none := by
    have := Heap.get?_push_size (s.heap.push { cls := .type "tuple_iterator", data := .fields #[.ref l, .int 0 0] })
      (o := { cls := .type "enumerate", data := .fields #[.none, .bool false, .ref s.heap.objs.size, rawInt 0, .none, .none] }) rfl
    rw [hz] at this; exact this
  refine ⟨⟨_, he, rfl⟩, h _ he ⟨_, Heap.get?_push_of_some _ (Heap.get?_push_size _ rfl), rfl, rfl⟩ (by rw [Heap.size_push, hz]) fun b o x => Heap.get?_push_of_some _ (Heap.get?_push_of_some _ x)⟩

theorem F.spr_args_max5 (a b c d e : Value) : argsOk "max" ⟨[a, b, c, d, e], []⟩ := by unfold argsOk; kernel_rfl
theorem spr_max_five {a b c d e : Int} {ta tb tc td te : Tok} {Q : Value → Shared → Prop} (hh : A.handled = none)
    (h : ∀ h' tk m t', (∀ b o, s.heap.get? b = some o → h'.get? b = some o) → m ∈ [a, b, c, d, e] → (∀ y ∈ [a, b, c, d, e], y ≤ m) → Q (.int m t') { s with heap := h', toks := tk }) :
    wpAny (model prog w) A (call (.builtin "max") [.int a ta, .int b tb, .int c tc, .int d td, .int e te]) Q E s := by
  have hname : (toString "max" ++ toString ".loop" : String) = "max.loop" := by decide
  refine call_function_tree F.kind_max F.plain_max F.entry_max (F.spr_args_max5 _ _ _ _ _) ?_
  show wpAny _ A.in1 (Builtin.Builtins.bindParams "max" ["key", "default"] 0 ⟨[], []⟩ >>= _) _ _ s
  refine wpAny_bind (wpAny_of_eq (show Builtin.Builtins.bindParams "max" ["key", "default"] 0 ⟨[], []⟩ = pure [none, none] from rfl) ?_)
  show wpAny _ A.in1 (newTuple [.int a ta, .int b tb, .int c tc, .int d td, .int e te] >>= _) _ _ s
  refine wpAny_bind (wpAny_newObj_type ?_)
  have hT : (s.heap.push { cls := .type "tuple", data := .seq #[.int a ta, .int b tb, .int c tc, .int d td, .int e te] }).IsTuple s.heap.objs.size (intItems #[(a, ta), (b, tb), (c, tc), (d, td), (e, te)]) := ⟨_, Heap.get?_push_size _ rfl, rfl, 0, by simp [intItems]⟩
  have hsz : (s.heap.push { cls := .type "tuple", data := .seq #[.int a ta, .int b tb, .int c tc, .int d td, .int e te] }).objs.size = s.heap.objs.size + 1 := Heap.size_push ..
  refine wpAny_bind (wpAny_pyIter_tuple hT ?_)
  have W := Walks.tuple (prog := prog) (w := w) (A := A.in1) hh (s.heap.push { cls := .type "tuple", data := .seq #[.int a ta, .int b tb, .int c tc, .int d td, .int e te] }).objs.size s.heap.objs.size (by rw [hsz]; exact Nat.ne_of_lt (Nat.lt_succ_self _)) (intItems #[(a, ta), (b, tb), (c, tc), (d, td), (e, te)])
  refine wpAny_bind (wpAny_newObj_type ?_)
  rw [hname]
  refine wpAny_pure ⟨plainId_quiet F.plain_max_loop _, codeAny_max_loop_first W (fun i j => decide (numAt #[(a, ta), (b, tb), (c, tc), (d, td), (e, te)] i > numAt #[(a, ta), (b, tb), (c, tc), (d, td), (e, te)] j)) (CmpOf.ints_gt (numAt #[(a, ta), (b, tb), (c, tc), (d, td), (e, te)]) (fun _ _ => intItems_at)) _ ?_ (by simp [intItems]) (W.frame _ _ _ ⟨⟨_, Heap.get?_push_size _ rfl, rfl, rfl⟩, hT.push _⟩ fun b _ o e => Heap.get?_push_of_some _ e) (Heap.get?_push_size _ rfl) fun v h' tk hP hk => ?_⟩
  · intro hm
    rcases List.mem_cons.mp hm with e1 | hm
    · rw [Heap.size_push, hsz] at e1
      exact absurd e1 (Nat.succ_ne_self _)
    · rcases List.mem_cons.mp hm with e1 | hm
      · rw [Heap.size_push, hsz] at e1
        exact absurd e1 (by show ¬ (s.heap.objs.size + 1 + 1 : Nat) = s.heap.objs.size; omega)
      · cases hm
  · have hold : ∀ d o, s.heap.get? d = some o → h'.get? d = some o := fun d o e => by
      have hd := Heap.lt_size e
      refine hk d o (fun hm => ?_) (Nat.ne_of_lt ?_) (Heap.get?_push_of_some _ (Heap.get?_push_of_some _ (Heap.get?_push_of_some _ e)))
      · rcases List.mem_cons.mp hm with e1 | hm
        · rw [e1, hsz] at hd; exact Nat.lt_irrefl _ (Nat.lt_of_succ_lt hd)
        · cases hm
      · rw [Heap.size_push, hsz]; exact Nat.lt_succ_of_lt (Nat.lt_succ_of_lt hd)
    have hP' : (intItems #[(a, ta), (b, tb), (c, tc), (d, td), (e, te)])[argBest (fun i j => decide (numAt #[(a, ta), (b, tb), (c, tc), (d, td), (e, te)] i > numAt #[(a, ta), (b, tb), (c, tc), (d, td), (e, te)] j)) 4]? = some v := by
      have hsz2 : (intItems #[(a, ta), (b, tb), (c, tc), (d, td), (e, te)]).size - 1 = 4 := by simp [intItems]
      rw [← hsz2]; exact hP
    obtain ⟨t, ev⟩ := intItems_at hP'
    obtain ⟨h1, h2⟩ := argBest_gt (numAt #[(a, ta), (b, tb), (c, tc), (d, td), (e, te)]) 4
    rw [ev]
    refine h h' tk _ t hold ?_ fun y hy => ?_
    · generalize argBest (fun i j => decide (numAt #[(a, ta), (b, tb), (c, tc), (d, td), (e, te)] i > numAt #[(a, ta), (b, tb), (c, tc), (d, td), (e, te)] j)) 4 = q at h1
      have hq : q = 0 ∨ q = 1 ∨ q = 2 ∨ q = 3 ∨ q = 4 := by omega
      rcases hq with rfl | rfl | rfl | rfl | rfl <;> simp [numAt]
    · have k := fun j (hj : j ≤ 4) => h2 j hj
      have k0 := k 0 (by omega)
      have k1 := k 1 (by omega)
      have k2 := k 2 (by omega)
      have k3 := k 3 (by omega)
      have k4 := k 4 (by omega)
      generalize argBest (fun i j => decide (numAt #[(a, ta), (b, tb), (c, tc), (d, td), (e, te)] i > numAt #[(a, ta), (b, tb), (c, tc), (d, td), (e, te)] j)) 4 = q at k0 k1 k2 k3 k4 ⊢
      simp only [numAt] at k0 k1 k2 k3 k4 ⊢
      have hy' : y = a ∨ y = b ∨ y = c ∨ y = d ∨ y = e := by simpa using hy
      rcases hy' with rfl | rfl | rfl | rfl | rfl
      · simpa using k0
      · simpa using k1
      · simpa using k2
      · simpa using k3
      · simpa using k4
end
end PySem

namespace Sp
open PySem PySem.Spec PyProof.Rows L2
section
variable {X : Cx}
theorem call_max3I (hc : X.calm = true) : CallR X (.builtin "max") (fun xs H Q => ∃ i j k : Int, xs = [.int i, .int j, .int k] ∧ Q (.int (max (max i j) k)) H) := by
  intro pins s σ H xs us Q I r h
  obtain ⟨i, j, k, rfl, q⟩ := h
  cases r with
  | cons r1 r => cases r with
    | cons r2 r => cases r with
      | cons r3 r =>
        cases r
        obtain ⟨t1, rfl⟩ := r1
        obtain ⟨t2, rfl⟩ := r2
        obtain ⟨t3, rfl⟩ := r3
        refine max_three_ints (I.ok.hd hc) fun h' tk kk => ⟨_, H, I.kept kk, ?_, q⟩
        by_cases h1 : j > i
        · rw [if_pos h1]
          by_cases h2 : k > j
          · rw [if_pos h2, show max (max i j) k = k by omega]; exact ⟨_, rfl⟩
          · rw [if_neg h2, show max (max i j) k = j by omega]; exact ⟨_, rfl⟩
        · rw [if_neg h1]
          by_cases h2 : k > i
          · rw [if_pos h2, show max (max i j) k = k by omega]; exact ⟨_, rfl⟩
          · rw [if_neg h2, show max (max i j) k = i by omega]; exact ⟨_, rfl⟩
theorem call_max5I (hc : X.calm = true) : CallR X (.builtin "max") (fun xs H Q => ∃ i j k l m : Int, xs = [.int i, .int j, .int k, .int l, .int m] ∧ Q (.int (max (max (max (max i j) k) l) m)) H) := by
  intro pins s σ H xs us Q I r h
  obtain ⟨i, j, k, l, m, rfl, q⟩ := h
  cases r with
  | cons r1 r => cases r with
    | cons r2 r => cases r with
      | cons r3 r => cases r with
        | cons r4 r => cases r with
          | cons r5 r =>
            cases r
            obtain ⟨t1, rfl⟩ := r1
            obtain ⟨t2, rfl⟩ := r2
            obtain ⟨t3, rfl⟩ := r3
            obtain ⟨t4, rfl⟩ := r4
            obtain ⟨t5, rfl⟩ := r5
            refine spr_max_five (I.ok.hd hc) fun h' tk n t' kk hm hle => ⟨.int (max (max (max (max i j) k) l) m), H, I.kept kk, ⟨t', ?_⟩, q⟩
            have a1 := hle i (by simp)
            have a2 := hle j (by simp)
            have a3 := hle k (by simp)
            have a4 := hle l (by simp)
            have a5 := hle m (by simp)
            have hm' : n = i ∨ n = j ∨ n = k ∨ n = l ∨ n = m := by simpa using hm
            have e : n = max (max (max (max i j) k) l) m := by omega
            rw [e]
theorem call_isqrt : CallR X (.builtin "math.isqrt") (fun xs H Q => ∃ i : Int, xs = [.int i] ∧ (0 ≤ i ∧ i < 2 ^ 64) ∧ Q (.int ((Float64.isqrt i.toNat : Nat) : Int)) H) := by
  intro pins s σ H xs us Q I r h
  obtain ⟨i, rfl, ⟨h0, h1⟩, q⟩ := h
  obtain ⟨u, rfl, ⟨t, rfl⟩⟩ := vals1 r
  exact PySem.W.mg_isqrt h0 h1 ⟨.int _, H, I.tok _, ⟨_, rfl⟩, q⟩

/-! ### a chain of three comparisons -/
variable {a b c d : Expr} {ta tb tc td : TE} {pos : Pos}
def tCh3 (r r' r'' : R2) (ta tb tc td : TE) : TE := fun σ H Q => ta σ H fun x H1 => tb σ H1 fun y H2 => r x y H2 fun z H3 => ∃ k, z = .bl k ∧
  if k = true then tc σ H3 fun u H4 => r' y u H4 fun z' H5 => ∃ k', z' = .bl k' ∧ if k' = true then td σ H5 fun w H6 => r'' u w H6 Q else Q (.bl false) H5 else Q (.bl false) H3
theorem pe_ch3 {op op' op'' : CmpOp} {r r' r'' : R2} (ho : OpR X (compareOp op) r) (ho' : OpR X (compareOp op') r') (ho'' : OpR X (compareOp op'') r'') (ha : PE X a ta) (hb : PE X b tb) (hc : PE X c tc) (hd : PE X d td)
    (hm : lastMarks [op, op', op''] [b, c, d] = false) : PE X (.Compare a [op, op', op''] [b, c, d] pos) (tCh3 r r' r'' ta tb tc td) := by
  refine ⟨fun pins s σ H Q I h => ?_⟩
  refine Compare_chain (thn (ha.run pins s σ H _ I h) fun v s1 ⟨x, H1, I1, r1, q1⟩ => chain_link (thn (hb.run pins s1 σ H1 _ I1 q1) fun u s2 ⟨y, H2, I2, r2, q2⟩ =>
    thn (ho pins s2 σ H2 x y v u _ I2 r1 r2 q2) fun dd s3 ⟨z, H3, I3, r3, k, e, q3⟩ => ?_)) hm
  subst e
  cases r3
  refine wpAny_truthy_bool ?_
  cases k with
  | false => exact ite_ff ⟨.bl false, H3, I3, rfl, q3⟩
  | true =>
    refine ite_tt (chain_link (thn (hc.run pins s3 σ H3 _ I3 q3) fun w' s4 ⟨z', H4, I4, r4, q4⟩ => thn (ho' pins s4 σ H4 y z' u w' _ I4 r2 r4 q4) fun d2 s5 ⟨z2, H5, I5, r5, k', e', q5⟩ => ?_))
    subst e'
    cases r5
    refine wpAny_truthy_bool ?_
    cases k' with
    | false => exact ite_ff ⟨.bl false, H5, I5, rfl, q5⟩
    | true => exact ite_tt (chain_last (thn (hd.run pins s5 σ H5 _ I5 q5) fun w2 s6 ⟨z3, H6, I6, r6, q6⟩ => ho'' pins s6 σ H6 z' z3 w' w2 Q I6 r4 r6 q6))
theorem pt_ch3 {op op' op'' : CmpOp} {r r' r'' : R2} (ho : OpR X (compareOp op) r) (ho' : OpR X (compareOp op') r') (ho'' : OpR X (compareOp op'') r'') (ha : PE X a ta) (hb : PE X b tb) (hc : PE X c tc) (hd : PE X d td)
    (hm : lastMarks [op, op', op''] [b, c, d] = false) : PT X (.Compare a [op, op', op''] [b, c, d] pos) (tTest (tCh3 r r' r'' ta tb tc td)) := by
  refine ⟨fun pins s σ H Q I h => ?_⟩
  refine isTrue_chain (thn (ha.run pins s σ H _ I h) fun v s1 ⟨x, H1, I1, r1, q1⟩ => test_link (thn (hb.run pins s1 σ H1 _ I1 q1) fun u s2 ⟨y, H2, I2, r2, q2⟩ =>
    thn (ho pins s2 σ H2 x y v u _ I2 r1 r2 q2) fun dd s3 ⟨z, H3, I3, r3, k, e, q3⟩ => ?_)) hm
  subst e
  cases r3
  refine wpAny_truthy_bool ?_
  cases k with
  | false =>
    obtain ⟨k', e', q'⟩ := q3
    cases e'
    exact ite_ff ⟨H3, I3, q'⟩
  | true =>
    refine ite_tt (test_link (thn (hc.run pins s3 σ H3 _ I3 q3) fun w' s4 ⟨z', H4, I4, r4, q4⟩ => thn (ho' pins s4 σ H4 y z' u w' _ I4 r2 r4 q4) fun d2 s5 ⟨z2, H5, I5, r5, k', e', q5⟩ => ?_))
    subst e'
    cases r5
    refine wpAny_truthy_bool ?_
    cases k' with
    | false =>
      obtain ⟨k2, e2, q2'⟩ := q5
      cases e2
      exact ite_ff ⟨H5, I5, q2'⟩
    | true =>
      refine ite_tt (test_last (thn (hd.run pins s5 σ H5 _ I5 q5) fun w2 s6 ⟨z3, H6, I6, r6, q6⟩ => thn (ho'' pins s6 σ H6 z' z3 w' w2 _ I6 r4 r6 q6) fun d3 s7 ⟨z4, H7, I7, r7, k2, e2, q7⟩ => ?_))
      subst e2
      cases r7
      exact wpAny_truthy_bool ⟨H7, I7, q7⟩

/-! ### what is walked, whatever it is -/
variable {tg : Expr}
def iAny (K : PySem.W.Frag) (tl : TE) : TI := fun σ H R => tl σ H fun x H1 => (∃ a, x = .ref a ∧ (∃ xs, SqL K H1 a xs) ∧ R (Itl K a) H1) ∨ (∃ a, x = .ref a ∧ (∃ xs, SqT K H1 a xs) ∧ R (Itt K a) H1) ∨ ∃ z, x = .str z ∧ R (Its z) H1
theorem pi_any {l : Expr} {tl : TE} (hl : PE X l tl) : PI X tg l (iAny X.K tl) := by
  refine ⟨fun pins s σ H R I h => ?_⟩
  refine thn (hl.run pins s σ H _ I h) fun v s1 ⟨x, H1, I1, r1, q1⟩ => ?_
  rcases q1 with ⟨a, e, ⟨xs, hq⟩, q⟩ | ⟨a, e, ⟨xs, hq⟩, q⟩ | ⟨z, e, q⟩
  · subst e
    cases r1
    obtain ⟨its, rv, p, hz⟩ := I1.list hq
    refine wpAny_pyIter_list p.isList ?_
    refine ⟨s1.heap.objs.size, [s1.heap.objs.size], _, _, H1, rfl, I1.kept (t' := s1.toks) fun b o e => Heap.get?_push_of_some _ e, turn_list a _, ⟨_, Heap.get?_push_size _ rfl, rfl, rfl⟩, fun b hb => ?_, q⟩
    have e : b = s1.heap.objs.size := by simpa using hb
    subst e
    exact I1.fpOk (Nat.le_refl _) (I1.hok.fresh (Nat.le_refl _))
  · subst e
    cases r1
    obtain ⟨its, rv, p, hz⟩ := I1.tuple hq
    refine wpAny_pyIter_tuple (show s1.heap.IsTuple a its.toArray from p) ?_
    refine ⟨s1.heap.objs.size, [s1.heap.objs.size], _, _, H1, rfl, I1.kept (t' := s1.toks) fun b o e => Heap.get?_push_of_some _ e, turn_tuple a _, ⟨_, Heap.get?_push_size _ rfl, rfl, rfl⟩, fun b hb => ?_, q⟩
    have e : b = s1.heap.objs.size := by simpa using hb
    subst e
    exact I1.fpOk (Nat.le_refl _) (I1.hok.fresh (Nat.le_refl _))
  · subst e
    obtain ⟨t, rfl⟩ := r1
    cases ha : z.cps.all (· < 128)
    · exact wpAny_pyIter_wide ha (pi_one (tk := s1.toks) I1 _ (turn_str _ z t "str_iterator" (.inr rfl)) ⟨_, Heap.get?_push_size _ rfl, rfl, rfl⟩ q)
    · exact wpAny_pyIter_ascii ha (pi_one (tk := s1.toks) I1 _ (turn_str _ z t "str_ascii_iterator" (.inl rfl)) ⟨_, Heap.get?_push_size _ rfl, rfl, rfl⟩ q)

/-! ### zip of a list and a tuple -/
def ItzM (K : PySem.W.Frag) (a b : Addr) : L2.It :=
  ⟨fun i H => ∃ (xs ys : List V) (x y : V), SqL K H a xs ∧ SqT K H b ys ∧ xs[i]? = some x ∧ ys[i]? = some y,
    fun i H v H' => ∃ T x y, v = .ref T ∧ H T = none ∧ H' = upd H T (.tup [x, y]) ∧ (∀ xs, SqL K H a xs → xs[i]? = some x) ∧ ∀ ys, SqT K H b ys → ys[i]? = some y,
    fun i H => ∃ xs ys : List V, SqL K H a xs ∧ SqT K H b ys ∧ i = min xs.length ys.length⟩
theorem turn_zipM {P : Program} {w : World} {K : PySem.W.Frag} {elts : List Expr} {kk : Nat} {tpos : Pos} {a b z TI TO i1 i2 : Addr} (D : ZipApart z TI TO i1 i2 a b) :
    Turn P w K (.Tuple elts kk tpos) (ItzM K a b) [z, TI, TO, i1, i2] z (fun i h => IsZip h z TI TO .none ∧ IsPair h TI (.ref i1) (.ref i2) ∧ (∃ x y, IsPair h TO x y) ∧ h.IsListIter i1 a i ∧ h.IsTupleIter i2 b i) where
  mem := by simp
  obj := fun i h st c hc => by
    obtain ⟨hz, hTI, ⟨x, y, hTO⟩, ⟨o1, e1, _, d1⟩, ⟨o2, e2, _, d2⟩⟩ := st
    have e' : c = z ∨ c = TI ∨ c = TO ∨ c = i1 ∨ c = i2 := by simpa using hc
    rcases e' with q | q | q | q | q
    · rw [q]; exact ⟨_, hz, fun v q => nomatch q⟩
    · rw [q]; exact ⟨_, hTI, fun v q => nomatch q⟩
    · rw [q]; exact ⟨_, hTO, fun v q => nomatch q⟩
    · rw [q]; exact ⟨o1, e1, fun v q => by rw [d1] at q; cases q⟩
    · rw [q]; exact ⟨o2, e2, fun v q => by rw [d2] at q; cases q⟩
  keep := fun i h h' st k => by
    obtain ⟨hz, hTI, ⟨x, y, hTO⟩, h1, h2⟩ := st
    exact ⟨k z (by simp) _ hz, k TI (by simp) _ hTI, ⟨x, y, k TO (by simp) _ hTO⟩, h1.at fun o q => k i1 (by simp) o q, h2.at fun o q => k i2 (by simp) o q⟩
  item := by
    intro X hP hw hK hc i pins s σ H E I hf st hg
    subst hP hw hK
    obtain ⟨hz, hTI, ⟨x0, y0, hTO⟩, h1, h2⟩ := st
    obtain ⟨xs, ys, x, y, hqx, hqy, hx, hy⟩ := hg
    obtain ⟨its, rv, p, _⟩ := I.list hqx
    obtain ⟨its2, rv2, p2, _⟩ := I.tuple hqy
    obtain ⟨u, hu, ru⟩ := rv.get hx
    obtain ⟨u2, hu2, ru2⟩ := rv2.get hy
    have hzl : z < s.heap.objs.size := Heap.lt_size hz
    have S : ZipSep2 z TI TO i1 i2 [i1, a] [i2, b] := ⟨D.TIz, D.TOz, D.TITO, D.TIi1, by simp, by simp [Ne.symm D.i1z, Ne.symm D.l1z], by simp [D.TOi1, Ne.symm D.l1TO], D.TIi2, by simp, by simp [Ne.symm D.i2z, Ne.symm D.l2z], by simp [D.TOi2, Ne.symm D.l2TO], by simp [D.i12, Ne.symm D.l2i1], by simp [Ne.symm D.i12, Ne.symm D.l1i2]⟩
    have hh : X.A.in1.handled = none := I.ok.hd hc
    have D1 := Draws.list (prog := X.prog) (w := X.w) hh i1 a D.l1i1 its.toArray
    have D2 := Draws.tuple (prog := X.prog) (w := X.w) hh i2 b D.l2i2 its2.toArray
    have hl1 : i < its.toArray.size := by
      have := (List.getElem?_eq_some_iff.mp hu).1
      simpa using this
    have hl2 : i < its2.toArray.size := by
      have := (List.getElem?_eq_some_iff.mp hu2).1
      simpa using this
    refine wpAny_pyNext_zipD2_item S D1 D2 hz hTI hTO ⟨h1, p.isList⟩ ⟨h2, p2⟩ hl1 hl2 fun x1 x2 h' tk y1 y2 b1 b2 d1 d2 b5 b6 hk => ?_
    have e1 : x1 = u := by
      have y1 : its.toArray[i]? = some x1 := y1
      rw [List.getElem?_toArray, hu] at y1
      exact (Option.some.inj y1).symm
    have e2 : x2 = u2 := by
      have y2 : its2.toArray[i]? = some x2 := y2
      rw [List.getElem?_toArray, hu2] at y2
      exact (Option.some.inj y2).symm
    subst e1 e2
    refine ⟨_, rfl, wpAny_letOwnedTupleGo_zip (s := { s with heap := h', toks := tk }) b1 fun h'' z'' sb => ?_⟩
    have hT2 : h''.get? s.heap.objs.size = some { cls := .type "tuple", data := .seq #[x1, x2] } := (sb.2 _ (Nat.ne_of_gt hzl)).trans b5
    have new : ObjOk X.prog X.w (upd H s.heap.objs.size (.tup [x, y])) h'' s.heap.objs.size (.tup [x, y]) :=
      ⟨by show 2 ≤ sizeLine; decide, [x1, x2], .cons ru (.cons ru2 .nil), ⟨_, hT2, rfl, _, rfl⟩⟩
    have I1 : Inv X pins σ (upd H s.heap.objs.size (.tup [x, y])) { s with heap := h'', toks := tk } :=
      I.turnedNew (ch := [z, TI, TO, i1, i2]) (fun c o hb q => (sb.2 c (fun q' => hb (by simp [q']))).trans (hk c o (fun q' => hb (by simp [q'])) (fun q' => hb (by simp [q'])) (fun q' => hb (by simp [q'])) (fun q' => hb (by simp [q'])) q)) hf (Nat.le_refl _) new
    refine ⟨.ref s.heap.objs.size, _, I1, rfl, ⟨_, x, y, rfl, I.hok.fresh (Nat.le_refl _), rfl, fun l hl => by rw [I.list_inj hl hqx]; exact hx, fun l hl => by rw [I.tuple_inj hl hqy]; exact hy⟩, ⟨z'', ?_, ⟨x1, x2, ?_⟩, ?_, ?_⟩, fun c hcm => ?_⟩
    · exact (sb.2 _ D.TIz).trans (hk _ _ D.TIz D.TITO D.TIi1 D.TIi2 hTI)
    · exact (sb.2 _ D.TOz).trans b2
    · exact d1.1.at fun o q => (sb.2 _ D.i1z).trans q
    · exact d2.1.at fun o q => (sb.2 _ D.i2z).trans q
    · have hlt : c < s.heap.objs.size := by
        have e' : c = z ∨ c = TI ∨ c = TO ∨ c = i1 ∨ c = i2 := by simpa using hcm
        rcases e' with q | q | q | q | q
        · rw [q]; exact hzl
        · rw [q]; exact Heap.lt_size hTI
        · rw [q]; exact Heap.lt_size hTO
        · rw [q]; obtain ⟨_, e1, _⟩ := h1; exact Heap.lt_size e1
        · rw [q]; obtain ⟨_, e2, _⟩ := h2; exact Heap.lt_size e2
      rw [upd_ne (Nat.ne_of_lt hlt)]
      exact (hf c hcm).1
  done := by
    intro X hP hw hK hc i pins s σ H E I hf st hg
    subst hP hw hK
    obtain ⟨hz, hTI, ⟨x0, y0, hTO⟩, h1, h2⟩ := st
    obtain ⟨xs, ys, hqx, hqy, hend⟩ := hg
    obtain ⟨its, rv, p, _⟩ := I.list hqx
    obtain ⟨its2, rv2, p2, _⟩ := I.tuple hqy
    have l1 := rv.length
    have l2 := rv2.length
    have S : ZipSep2 z TI TO i1 i2 [i1, a] [i2, b] := ⟨D.TIz, D.TOz, D.TITO, D.TIi1, by simp, by simp [Ne.symm D.i1z, Ne.symm D.l1z], by simp [D.TOi1, Ne.symm D.l1TO], D.TIi2, by simp, by simp [Ne.symm D.i2z, Ne.symm D.l2z], by simp [D.TOi2, Ne.symm D.l2TO], by simp [D.i12, Ne.symm D.l2i1], by simp [Ne.symm D.i12, Ne.symm D.l1i2]⟩
    have hh : X.A.in1.handled = none := I.ok.hd hc
    have D1 := Draws.list (prog := X.prog) (w := X.w) hh i1 a D.l1i1 its.toArray
    have D2 := Draws.tuple (prog := X.prog) (w := X.w) hh i2 b D.l2i2 its2.toArray
    have hi1 : i ≤ its.toArray.size := by simp; omega
    have hi2 : i ≤ its2.toArray.size := by simp; omega
    have hi3 : i = its.toArray.size ∨ i = its2.toArray.size := by simp; omega
    exact wpAny_pyNext_zipD2_end S D1 D2 hz hTI hTO ⟨h1, p.isList⟩ ⟨h2, p2⟩ hi1 hi2 hi3 fun h' tk hk => ⟨rfl, I.turnedL (ch := [z, TI, TO, i1, i2]) (fun c o hb q =>
      hk c o (fun q' => hb (by simp [q'])) (fun q' => hb (by simp [q'])) (fun q' => hb (by simp [q'])) (fun q' => hb (by simp [q'])) q) hf⟩
  self := fun A i s Q E st h => wpAny_pyIter_zip st.1 h
end

def iZip3 (K : PySem.W.Frag) (ta : TA) : TI := fun σ H R => ta σ H fun vs H1 => ∃ a b xs ys, vs = [.ref a, .ref b] ∧
  ((SqL K H1 a xs ∧ SqL K H1 b ys ∧ R (Itz K a b) H1) ∨ (SqT K H1 a xs ∧ SqT K H1 b ys ∧ R (RZ.ItzT K a b) H1) ∨ (SqL K H1 a xs ∧ SqT K H1 b ys ∧ R (ItzM K a b) H1))
theorem pi_zip3 {X : Cx} {e e2 : Expr} {ta : TA} {p pos tpos : Pos} {elts : List Expr} {kk : Nat} (hg : Gl X "zip") (hm : X.mg "zip" = none) (ha : PA X [e, e2] ta)
    (hs : starEach [e, e2] X.env = (false, eval e X.env) :: starEach [e2] X.env) (hpl : (backTo pos (starEach [e2] X.env)).any (·.1) = false) :
    PI X (.Tuple elts kk tpos) (.Call (.Name "zip" p) [e, e2] [] pos) (iZip3 X.K ta) := by
  refine ⟨fun pins s σ H R I h => ?_⟩
  refine Call_ (ld_blt I hg hm PyProof.Rows.boot_zip (PyProof.Rows.callWith_type1 (thn (ha.run pos pins s σ H _ I h) fun us s1 ⟨vs, H1, I1, r1, q1⟩ => ?_) hs hpl))
  obtain ⟨a, b, xs, ys, ex, q1⟩ := q1
  subst ex
  cases r1 with
  | cons r rr =>
    cases rr with
    | cons r' rr =>
      cases rr
      cases r
      cases r'
      have fresh5 : ∀ c, c ∈ [s1.heap.objs.size + 4, s1.heap.objs.size + 2, s1.heap.objs.size + 3, s1.heap.objs.size, s1.heap.objs.size + 1] → FpOk X pins H1 c := fun c hcm => by
        have e' : c = s1.heap.objs.size + 4 ∨ c = s1.heap.objs.size + 2 ∨ c = s1.heap.objs.size + 3 ∨ c = s1.heap.objs.size ∨ c = s1.heap.objs.size + 1 := by simpa using hcm
        have hle : s1.heap.objs.size ≤ c := by
          rcases e' with z | z | z | z | z
          · rw [z]; exact Nat.le_add_right _ _
          · rw [z]; exact Nat.le_add_right _ _
          · rw [z]; exact Nat.le_add_right _ _
          · rw [z]; exact Nat.le_refl _
          · rw [z]; exact Nat.le_add_right _ _
        exact I1.fpOk hle (I1.hok.fresh hle)
      rcases q1 with ⟨hqx, hqy, q⟩ | ⟨hqx, hqy, q⟩ | ⟨hqx, hqy, q⟩
      · obtain ⟨its, rv, p1, _⟩ := I1.list hqx
        obtain ⟨its2, rv2, p2, _⟩ := I1.list hqy
        refine call_zip_2 p1.isList p2.isList fun h' hz hTI hTO h1 h2 hsz hk => wpAny_pyIter_zip hz ?_
        have I2 : Inv X pins σ H1 { s1 with heap := h' } := I1.kept (t' := s1.toks) hk
        exact ⟨s1.heap.objs.size + 4, [s1.heap.objs.size + 4, s1.heap.objs.size + 2, s1.heap.objs.size + 3, s1.heap.objs.size, s1.heap.objs.size + 1], _, _, H1, rfl, I2, turn_zip (PySem.W.ktu_apart s1.heap.objs.size a b p1.lt p2.lt), ⟨hz, hTI, ⟨_, _, hTO⟩, h1, h2⟩, fresh5, q⟩
      · obtain ⟨its, rv, p1, _⟩ := I1.tuple hqx
        obtain ⟨its2, rv2, p2, _⟩ := I1.tuple hqy
        obtain ⟨o1, ho1, _⟩ := id p1
        obtain ⟨o2, ho2, _⟩ := id p2
        refine RZ.call_zipT (show s1.heap.IsTuple a its.toArray from p1) (show s1.heap.IsTuple b its2.toArray from p2) fun h' hz hTI hTO h1 h2 hsz hk => wpAny_pyIter_zip hz ?_
        have I2 : Inv X pins σ H1 { s1 with heap := h' } := I1.kept (t' := s1.toks) hk
        exact ⟨s1.heap.objs.size + 4, [s1.heap.objs.size + 4, s1.heap.objs.size + 2, s1.heap.objs.size + 3, s1.heap.objs.size, s1.heap.objs.size + 1], _, _, H1, rfl, I2, RZ.turn_zipT (PySem.W.ktu_apart s1.heap.objs.size a b (Heap.lt_size ho1) (Heap.lt_size ho2)), ⟨hz, hTI, ⟨_, _, hTO⟩, h1, h2⟩, fresh5, q⟩
      · obtain ⟨its, rv, p1, _⟩ := I1.list hqx
        obtain ⟨its2, rv2, p2, _⟩ := I1.tuple hqy
        obtain ⟨o2, ho2, _⟩ := id p2
        refine zip_begins2 (begins_list a its.toArray) (begins_tuple b its2.toArray) p1.isList (show s1.heap.IsTuple b its2.toArray from p2) fun h' hz hTI hTO h1 h2 hsz hk => wpAny_pyIter_zip hz ?_
        have I2 : Inv X pins σ H1 { s1 with heap := h' } := I1.kept (t' := s1.toks) hk
        exact ⟨s1.heap.objs.size + 4, [s1.heap.objs.size + 4, s1.heap.objs.size + 2, s1.heap.objs.size + 3, s1.heap.objs.size, s1.heap.objs.size + 1], _, _, H1, rfl, I2, turn_zipM (PySem.W.ktu_apart s1.heap.objs.size a b p1.lt (Heap.lt_size ho2)), ⟨hz, hTI, ⟨_, _, hTO⟩, ⟨_, h1, rfl, rfl⟩, ⟨_, h2, rfl, rfl⟩⟩, fresh5, q⟩

/-! ### enumerate of a tuple -/
def IteT (K : PySem.W.Frag) (a : Addr) : L2.It :=
  ⟨fun i H => ∃ (xs : List V) (x : V), SqT K H a xs ∧ xs[i]? = some x, fun i H v H' => ∃ T x, v = .ref T ∧ H T = none ∧ H' = upd H T (.tup [.int (i : Nat), x]) ∧ ∀ xs, SqT K H a xs → xs[i]? = some x, fun i H => ∃ xs : List V, SqT K H a xs ∧ i = xs.length⟩
theorem turn_enumT {P : Program} {w : World} {K : PySem.W.Frag} {elts : List Expr} {kk : Nat} {tpos : Pos} (a e it : Addr) (hea : a ≠ e) (hia : a ≠ it) :
    Turn P w K (.Tuple elts kk tpos) (IteT K a) [e, it] e (fun i h => (∃ old, IsEnum h e it ((0 : Int) + ((i : Nat) : Int)) old) ∧ h.IsTupleIter it a i ∧ e ≠ it) where
  mem := by simp
  obj := fun i h st b hb => by
    obtain ⟨⟨old, he⟩, ⟨o, ho, hc, hd⟩, _⟩ := st
    have e' : b = e ∨ b = it := by simpa using hb
    rcases e' with z | z
    · rw [z]; exact ⟨_, he, fun v q => nomatch q⟩
    · rw [z]; exact ⟨o, ho, fun v q => by rw [hd] at q; cases q⟩
  keep := fun i h h' st k => let ⟨⟨old, he⟩, hi, hne⟩ := st; ⟨⟨old, k e (by simp) _ he⟩, hi.at fun o q => k it (by simp) o q, hne⟩
  item := by
    intro X hP hw hK hc i pins s σ H E I hf st hg
    subst hP hw hK
    obtain ⟨⟨old, he⟩, hit, hne⟩ := st
    obtain ⟨xs, x, hq, hx⟩ := hg
    obtain ⟨its, rv, p, hz⟩ := I.tuple hq
    obtain ⟨u, hu, ru⟩ := rv.get hx
    have hel : e < s.heap.objs.size := Heap.lt_size he
    have hil : it < s.heap.objs.size := by obtain ⟨_, q, _⟩ := hit; exact Heap.lt_size q
    have D1 := Draws.tuple (prog := X.prog) (w := X.w) (show X.A.in1.handled = none from I.ok.hd hc) it a hia its.toArray
    have W := WalksT.enumFrom (A := X.A) 0 D1 e hne (by simp [hne, Ne.symm hea]) (by simp)
    have hl : i < its.toArray.size := by
      have := (List.getElem?_eq_some_iff.mp hu).1
      simpa using this
    refine W.item i s _ _ hl ⟨⟨old, he⟩, hit, p⟩ fun T vals h' tk hP hT0 hT hmid hk => ?_
    obtain ⟨t, y, hy, rfl⟩ := hP
    have e1 : y = u := by
      have y1 : its.toArray[i]? = some y := hy
      rw [List.getElem?_toArray, hu] at y1
      exact (Option.some.inj y1).symm
    subst e1
    refine ⟨_, rfl, W.go elts kk tpos i T { s with heap := h', toks := tk } _ _ hmid fun h'' hst sb => ?_⟩
    obtain ⟨⟨old2, he2⟩, hit2, _⟩ := hst
    have nT : T ∉ [e, it] := W.apart i T h' hmid
    obtain ⟨oT, eT, cT, nn, dT⟩ := hT
    have hT2 : h''.get? T = some oT := sb T oT nT eT
    have new : ObjOk X.prog X.w (upd H T (.tup [.int ((0 : Int) + (i : Int)), x])) h'' T (.tup [.int ((0 : Int) + (i : Int)), x]) :=
      ⟨by show 2 ≤ sizeLine; decide, [.int ((0 : Int) + (i : Int)) t, y], .cons ⟨_, rfl⟩ (.cons ru .nil), ⟨_, hT2, cT, _, dT⟩⟩
    have I1 : Inv X pins σ (upd H T (.tup [.int ((0 : Int) + (i : Int)), x])) { s with heap := h'', toks := tk } :=
      I.turnedNew (ch := [e, it]) (fun b ob hb q => sb b ob hb (hk b ob hb q)) hf hT0 new
    have ei : (0 : Int) + (i : Int) = ((i : Nat) : Int) := by omega
    rw [ei] at I1
    refine ⟨.ref T, _, I1, rfl, ⟨_, x, rfl, I.hok.fresh hT0, rfl, fun ys hy => by rw [I.tuple_inj hy hq]; exact hx⟩, ⟨⟨old2, he2⟩, hit2, hne⟩, fun b hb => ?_⟩
    have hb' : b < s.heap.objs.size := by
      have e' : b = e ∨ b = it := by simpa using hb
      rcases e' with z | z
      · rw [z]; exact hel
      · rw [z]; exact hil
    rw [upd_ne (Nat.ne_of_lt (Nat.lt_of_lt_of_le hb' hT0))]
    exact (hf b hb).1
  done := by
    intro X hP hw hK hc i pins s σ H E I hf st hg
    subst hP hw hK
    obtain ⟨⟨old, he⟩, hit, hne⟩ := st
    obtain ⟨xs, hq, hx⟩ := hg
    obtain ⟨its, rv, p, hz⟩ := I.tuple hq
    have D1 := Draws.tuple (prog := X.prog) (w := X.w) (show X.A.in1.handled = none from I.ok.hd hc) it a hia its.toArray
    have W := WalksT.enumFrom (A := X.A) 0 D1 e hne (by simp [hne, Ne.symm hea]) (by simp)
    have hl := rv.length
    have ei : i = its.toArray.size := by rw [hx, hl]; simp
    subst ei
    exact W.done s _ _ ⟨⟨old, he⟩, hit, p⟩ fun h' tk hk => ⟨rfl, I.turnedL (ch := [e, it]) (fun b ob hb q => hk b ob hb q) hf⟩
  self := fun A i s Q E st h => let ⟨⟨_, he⟩, _⟩ := st; wpAny_pyIter_enum he h
def iEnum2 (K : PySem.W.Frag) (ta : TA) : TI := fun σ H R => ta σ H fun vs H1 => ∃ a xs, vs = [.ref a] ∧ ((SqL K H1 a xs ∧ R (Ite K a) H1) ∨ (SqT K H1 a xs ∧ R (IteT K a) H1))
theorem pi_enum2 {X : Cx} {e : Expr} {ta : TA} {p pos tpos : Pos} {elts : List Expr} {kk : Nat} (hg : Gl X "enumerate") (hm : X.mg "enumerate" = none) (ha : PA X [e] ta) (hs : starEach [e] X.env = [(false, eval e X.env)]) :
    PI X (.Tuple elts kk tpos) (.Call (.Name "enumerate" p) [e] [] pos) (iEnum2 X.K ta) := by
  refine ⟨fun pins s σ H R I h => ?_⟩
  refine Call_ (ld_blt I hg hm boot_enumerate (PyProof.Rows.callWith_type1 (thn (ha.run pos pins s σ H _ I h) fun us s1 ⟨vs, H1, I1, r1, q1⟩ => ?_) hs rfl))
  obtain ⟨a, xs, ex, q1⟩ := q1
  subst ex
  have fresh2 : ∀ b, b ∈ [s1.heap.objs.size + 1, s1.heap.objs.size] → FpOk X pins H1 b := fun b hb => by
    have e' : b = s1.heap.objs.size + 1 ∨ b = s1.heap.objs.size := by simpa using hb
    have hle : s1.heap.objs.size ≤ b := by
      rcases e' with z | z
      · rw [z]; exact Nat.le_add_right _ _
      · rw [z]; exact Nat.le_refl _
    exact I1.fpOk hle (I1.hok.fresh hle)
  cases r1 with
  | cons r rr =>
    cases rr
    cases r
    rcases q1 with ⟨hq, q⟩ | ⟨hq, q⟩
    · obtain ⟨its, rv, p', hz⟩ := I1.list hq
      refine call_enumerate_list p'.isList fun h' he hit hsz hk => wpAny_pyIter_enum he ?_
      have I2 : Inv X pins σ H1 { s1 with heap := h' } := I1.kept (t' := s1.toks) hk
      exact ⟨s1.heap.objs.size + 1, [s1.heap.objs.size + 1, s1.heap.objs.size], _, _, H1, rfl, I2, turn_enum a (s1.heap.objs.size + 1) s1.heap.objs.size, ⟨⟨.none, he⟩, hit, Nat.succ_ne_self _⟩, fresh2, q⟩
    · obtain ⟨its, rv, p', hz⟩ := I1.tuple hq
      have hlt : a < s1.heap.objs.size := p'.lt
      refine spr_call_enumT (show s1.heap.IsTuple a its.toArray from p') fun h' he hit hsz hk => wpAny_pyIter_enum he ?_
      have I2 : Inv X pins σ H1 { s1 with heap := h' } := I1.kept (t' := s1.toks) hk
      exact ⟨s1.heap.objs.size + 1, [s1.heap.objs.size + 1, s1.heap.objs.size], _, _, H1, rfl, I2, turn_enumT a (s1.heap.objs.size + 1) s1.heap.objs.size (Nat.ne_of_lt (Nat.lt_succ_of_lt hlt)) (Nat.ne_of_lt hlt), ⟨⟨.none, he⟩, hit, Nat.succ_ne_self _⟩, fresh2, q⟩
end Sp
end
section
set_option Elab.async false
set_option linter.all false
set_option maxRecDepth 100000
/-! Part C1: the operators, subscripts, built-ins by data. -/
namespace Sp
open PySem PySem.Spec PyProof.Rows L2

/-- what the top has left -/
structure GOk (G : Gc) : Prop where
  blt : ∀ x ∈ (["len", "max", "min", "sum", "all", "any", "abs", "int", "tuple", "sorted", "range", "zip", "enumerate", "isinstance"] : List Str), G.mg x = none
  isq : G.mg "isqrt" = some (.builtin "math.isqrt")
  glb : ∀ g, g < 12 → ∃ u v, G.mg (gname g) = some u ∧ RelV v u ∧ ∀ H, Is G H (gval g) v
  pts : ∃ d es n, G.mg "POINTS" = some (.ref d) ∧ KDict G.K G.w d es n ∧ ∀ z ∈ kinds4, ∃ r, PySem.W.nsIn G.K d z = some r ∧ r.isSome = true
  cls : ∀ c, c < 11 → Cls G.K (G.ca c)
  noa : ∀ c, c < 11 → ∀ f ∈ cf c, NoAttr G.K (G.ca c) (fname f)
  pmg : G.mg "Paper" = some (.ref (G.ca 6))
  pcl : ∀ a dx fs H, H a = some (.ins (G.ca 6) dx fs) → TyOf G.K H (.ref a) (.ref (G.ca 6))
  pk : PySem.W.kitOne G.K (.ref (G.ca 6)) (.ref (G.ca 6)) = some true
  pkN : PySem.W.kitOne G.K (.type "NoneType") (.ref (G.ca 6)) = some false
  pkT : PySem.W.kitOne G.K (.type "tuple") (.ref (G.ca 6)) = some false

/-- the context of a body -/
structure Good (G : Gc) (c : Cc) (k : Nat) (X : Cx) : Prop where
  prog : X.prog = G.P
  w : X.w = G.w
  K : X.K = G.K
  mg : X.mg = G.mg
  base : X.base = G.base
  N : X.N = c.N
  nd : c.N.Nodup
  sc : X.env.scope = c.sc
  fk : c.sc.kind = .function
  fb : ∀ x, c.fb x = true → X.fn x = true
  calm : X.calm = true
  xe : X.xe = fun _ _ => False
  room : Room k X.A

/-- the wish, closed under what keeps all that is fixed -/
def Cl (G : Gc) (M : Mem) (H : Hp) (P : D → Mem → Prop) (Q : VK) : Prop := ∀ d M' v H', P d M' → Rch M H M' H' → MIs G M' H' → Is G (cut M' H') d v → Q v H'
section
variable {G : Gc} {M M1 : Mem} {H H1 : Hp} {P : D → Mem → Prop} {Q : VK} {X : Cx} {c : Cc} {k : Nat}
theorem Cl.mono (h : Cl G M H P Q) (r : Rch M H M1 H1) : Cl G M1 H1 P Q := fun d M' v H' p r' m i => h d M' v H' p (r.trans r') m i
theorem Cl.at (h : Cl G M H P Q) (m : MIs G M H) {d : D} {v : V} (p : P d M) (i : Is G (cut M H) d v) : Q v H := h d M v H p Rch.refl m i
/-- a new tuple, a new list as data, a new list of the store -/
theorem fin_tup (m : MIs G M H) (h : Cl G M H P Q) {ds : List D} {vs : List V} (p : P (.tup ds) M) (i : IsL G (cut M H) ds vs) : ∀ q, H q = none → Q (.ref q) (upd H q (.tup vs)) := fun q hq =>
  h _ M _ _ p (Rch.of (Evl.Ex.new hq)) (m.mono (Evl.Ex.new hq)) ⟨q, vs, rfl, SqT.of (cut_of (m.free hq) upd_same), i.mono (cut_mono (Evl.Ex.new hq))⟩
theorem fin_lst (m : MIs G M H) (h : Cl G M H P Q) {ds : List D} {vs : List V} (p : P (.lst ds) M) (i : IsL G (cut M H) ds vs) : ∀ q, H q = none → Q (.ref q) (upd H q (.lst vs)) := fun q hq =>
  h _ M _ _ p (Rch.of (Evl.Ex.new hq)) (m.mono (Evl.Ex.new hq)) ⟨q, vs, rfl, cut_of (m.free hq) upd_same, i.mono (cut_mono (Evl.Ex.new hq))⟩
theorem rch_new {q : Addr} {ds : List D} {vs : List V} (hq : H q = none) : Rch M H (M.set q (.lst ds)) (upd H q (.lst vs)) := by
  unfold Rch
  rw [cut_set.trans (cut_setn hq)]
  exact Evl.Ex.refl _
theorem fin_new (m : MIs G M H) (h : Cl G M H P Q) {ds : List D} {vs : List V} (p : ∀ a, M a = none → P (.adr a) (M.set a (.lst ds))) (i : IsL G (cut M H) ds vs) : ∀ q, H q = none → Q (.ref q) (upd H q (.lst vs)) := fun q hq =>
  h _ _ _ _ (p q (m.free hq)) (rch_new hq) (m.new hq i) rfl

theorem lst_at (m : MIs G M H) {d : D} {v : V} {ds : List D} (i : Is G (cut M H) d v) (e : lstOf M d = some ds) : ∃ a vs, v = .ref a ∧ H a = some (.lst vs) ∧ IsL G (cut M H) ds vs := by
  unfold lstOf at e
  split at e
  · cases e
    obtain ⟨a, vs, h1, h2, h3⟩ := i
    exact ⟨a, vs, h1, cut_le _ _ h2, h3⟩
  · rename_i a
    split at e
    · rename_i xs h
      cases e
      obtain ⟨vs, h2, h3⟩ := m.lst h
      exact ⟨a, vs, i, h2, h3⟩
    · cases e
  · cases e
theorem items_at (m : MIs G M H) {d : D} {v : V} {ds : List D} (i : Is G (cut M H) d v) (e : itemsOf M d = some ds) : ∃ a vs, v = .ref a ∧ (SqL G.K H a vs ∨ SqT G.K H a vs) ∧ IsL G (cut M H) ds vs := by
  unfold itemsOf at e
  split at e
  · cases e
    obtain ⟨a, vs, h1, h2, h3⟩ := i
    exact ⟨a, vs, h1, .inr (Evl.ex_t cut_le h2), h3⟩
  · cases e
    obtain ⟨a, h1, h2⟩ := i
    exact ⟨a, _, h1, .inl (Evl.ex_l cut_le h2), IsL.ofInts⟩
  · obtain ⟨a, vs, h1, h2, h3⟩ := lst_at m i e
    exact ⟨a, vs, h1, .inl (SqL.of h2), h3⟩
theorem tup_at {d : List D} {v : V} (i : Is G (cut M H) (.tup d) v) : ∃ a vs, v = .ref a ∧ SqT G.K H a vs ∧ IsL G (cut M H) d vs := by
  obtain ⟨a, vs, h1, h2, h3⟩ := i
  exact ⟨a, vs, h1, Evl.ex_t cut_le h2, h3⟩

/-! ### operators of two -/
def rD (G : Gc) (f : D → D → Mem → (D → Mem → Prop) → Prop) : R2 := fun x y H Q => ∃ d e M P, MIs G M H ∧ Is G (cut M H) d x ∧ Is G (cut M H) e y ∧ f d e M P ∧ Cl G M H P Q
theorem opR (g : Good G c k X) (o : O2) : OpR X (binaryOp o.op) (rD G (opD o)) := by
  intro pins s σ H x y v u Q I rx ry h
  obtain ⟨d, e, M, P, m, i1, i2, hf, q⟩ := h
  unfold opD at hf
  split at hf
  · rename_i i j
    exact op_add pins s σ H x y v u Q I rx ry ⟨i, j, i1, i2, q.at m hf rfl⟩
  · rename_i i j
    exact op_sub pins s σ H x y v u Q I rx ry ⟨i, j, i1, i2, q.at m hf rfl⟩
  · rename_i i j
    exact op_mul pins s σ H x y v u Q I rx ry ⟨i, j, i1, i2, hf.1, q.at m hf.2 rfl⟩
  · rename_i i j
    exact op_fdiv pins s σ H x y v u Q I rx ry ⟨i, j, i1, i2, hf.1, q.at m hf.2 rfl⟩
  · rename_i i j
    exact op_mod pins s σ H x y v u Q I rx ry ⟨i, j, i1, i2, hf.1, q.at m hf.2 rfl⟩
  · rename_i xs ys
    obtain ⟨a, vs, e1, h1, l1⟩ := tup_at i1
    obtain ⟨b, ws, e2, h2, l2⟩ := tup_at i2
    obtain ⟨hl, hP⟩ := hf
    rw [← g.K] at h1 h2
    refine op_catA pins s σ H x y v u Q I rx ry ⟨a, b, vs, ws, e1, e2, h1, h2, Evl.sz_of (by rw [← l1.length, ← l2.length]; exact hl), fun z => ?_, fun z1 z2 => ?_, fun _ _ => fin_tup m q hP (l1.append l2)⟩
    · subst z
      have z : xs = [] := List.length_eq_zero_iff.mp (by rw [l1.length]; rfl)
      subst z
      exact q.at m hP (by rw [e2] at i2; exact i2)
    · subst z2
      have z : ys = [] := List.length_eq_zero_iff.mp (by rw [l2.length]; rfl)
      subst z
      exact q.at m hP (by rw [e1] at i1; rw [List.append_nil]; exact i1)
  · rename_i xs ys
    obtain ⟨a, vs, e1, h1, l1⟩ := lst_at m i1 rfl
    obtain ⟨b, ws, e2, h2, l2⟩ := lst_at m i2 rfl
    obtain ⟨hl, hP⟩ := hf
    exact op_cat pins s σ H x y v u Q I rx ry ⟨a, b, vs, ws, e1, e2, h1, h2, Evl.sz_of (by rw [← l1.length, ← l2.length]; exact hl), fin_lst m q hP (l1.append l2)⟩
  · exact hf.elim

def rC (G : Gc) (f : D → D → Mem → (Bool → Prop) → Prop) : R2 := fun x y H Q => ∃ d e M P, MIs G M H ∧ Is G (cut M H) d x ∧ Is G (cut M H) e y ∧ f d e M P ∧ ∀ k, P k → Q (.bl k) H
theorem flat_V : ∀ {d : D} {v : V}, flatD d = true → Is G H d v → flatV v = true
  | .int i, v, _, i1 => by rw [show v = .int i from i1]; rfl
  | .str x, v, _, i1 => by rw [show v = .str x from i1]; rfl
theorem eq_V : ∀ {d e : D} {v w : V}, flatD d = true → flatD e = true → Is G H d v → Is G H e w → eqV v w = eqD d e
  | .int i, .int j, v, w, _, _, h1, h2 => by
    rw [show v = .int i from h1, show w = .int j from h2]
    show (i == j) = decide (i = j)
    rw [Bool.beq_eq_decide_eq]
  | .str i, .str j, v, w, _, _, h1, h2 => by
    rw [show v = .str i from h1, show w = .str j from h2]
    show (i == j) = decide (i = j)
    rw [Bool.beq_eq_decide_eq]
  | .int i, .str j, v, w, _, _, h1, h2 => by
    rw [show v = .int i from h1, show w = .str j from h2]; rfl
  | .str i, .int j, v, w, _, _, h1, h2 => by
    rw [show v = .str i from h1, show w = .int j from h2]; rfl
theorem in_V {x : D} {v : V} (fx : flatD x = true) (h : Is G H x v) : ∀ {ds : List D} {vs : List V}, IsL G H ds vs → ds.all flatD = true → vs.all flatV = true ∧ inV v vs = inD x ds
  | [], vs, l, _ => by cases l; exact ⟨rfl, rfl⟩
  | d :: ds, vs, l, f => by
    obtain ⟨w, r, rfl, h2, h3⟩ := l
    rw [List.all_cons, Bool.and_eq_true] at f
    obtain ⟨a, b⟩ := in_V fx h h3 f.2
    refine ⟨by rw [List.all_cons, flat_V f.1 h2, a]; rfl, ?_⟩
    show (eqV w v || inV v r) = (eqD d x || inD x ds)
    rw [eq_V f.1 fx h2 h, b]
theorem sca_V : ∀ {d e : D} {v w : V}, scaD d e = true → Is G H d v → Is G H e w → scal v w = true ∧ decide (v = w) = eqD d e
  | .int i, .int j, v, w, _, h1, h2 => by
    rw [show v = .int i from h1, show w = .int j from h2]
    refine ⟨rfl, ?_⟩
    rw [dec_int]
    show (i == j) = decide (i = j)
    rw [Bool.beq_eq_decide_eq]
  | .str i, .str j, v, w, _, h1, h2 => by
    rw [show v = .str i from h1, show w = .str j from h2]
    refine ⟨rfl, ?_⟩
    rw [dec_str]
    show (i == j) = decide (i = j)
    rw [Bool.beq_eq_decide_eq]
  | .bl i, .bl j, v, w, _, h1, h2 => by
    rw [show v = .bl i from h1, show w = .bl j from h2]
    refine ⟨rfl, ?_⟩
    rw [dec_bl]
    show (i == j) = decide (i = j)
    rw [Bool.beq_eq_decide_eq]
theorem cmpR (g : Good G c k X) (o : C2) : OpR X (compareOp o.op) (rC G (cmpD o)) := by
  intro pins s σ H x y v u Q I rx ry h
  obtain ⟨d, e, M, P, m, i1, i2, hf, q⟩ := h
  unfold cmpD at hf
  split at hf
  · rename_i i j
    exact op_lt pins s σ H x y v u Q I rx ry ⟨i, j, i1, i2, q _ hf⟩
  · rename_i i j
    exact op_le pins s σ H x y v u Q I rx ry ⟨i, j, i1, i2, q _ hf⟩
  · rename_i i j
    exact op_gt pins s σ H x y v u Q I rx ry ⟨i, j, i1, i2, q _ hf⟩
  · rename_i i j
    exact op_ge pins s σ H x y v u Q I rx ry ⟨i, j, i1, i2, q _ hf⟩
  · obtain ⟨hs, hP⟩ := hf
    obtain ⟨a, b⟩ := sca_V hs i1 i2
    exact op_eq pins s σ H x y v u Q I rx ry ⟨a, by rw [b]; exact q _ hP⟩
  · obtain ⟨hs, hP⟩ := hf
    obtain ⟨a, b⟩ := sca_V hs i1 i2
    exact op_ne pins s σ H x y v u Q I rx ry ⟨a, by rw [b]; exact q _ hP⟩
  · rename_i i j
    exact op_in_str pins s σ H x y v u Q I rx ry ⟨i, j, i1, i2, q _ hf⟩
  · obtain ⟨ys, e1, f1, f2, _, hP⟩ := hf
    obtain ⟨a, vs, e2, h1, l1⟩ := items_at m i2 e1
    obtain ⟨a1, a2⟩ := in_V f1 i1 l1 f2
    rw [← g.K] at h1
    exact op_in_seq pins s σ H x y v u Q I rx ry ⟨a, vs, e2, h1, flat_V f1 i1, a1, by rw [a2]; exact q _ hP⟩
  · obtain ⟨ys, e1, f1, f2, _, hP⟩ := hf
    obtain ⟨a, vs, e2, h1, l1⟩ := items_at m i2 e1
    obtain ⟨a1, a2⟩ := in_V f1 i1 l1 f2
    rw [← g.K] at h1
    exact op_notIn_seq pins s σ H x y v u Q I rx ry ⟨a, vs, e2, h1, flat_V f1 i1, a1, by rw [a2]; exact q _ hP⟩
  · exact hf.elim

/-! ### subscripts, slices -/
theorem atI_L : ∀ {ds : List D} {vs : List V} {i : Int} {d : D}, IsL G H ds vs → atI ds i = some d → ∃ v, atI vs i = some v ∧ Is G H d v := fun {ds vs i d} l e => by
  unfold atI at e ⊢
  rw [← l.length]
  cases q : ixN ds.length i with
  | none => rw [q] at e; cases e
  | some j =>
    rw [q] at e
    exact l.get (show ds[j]? = some d from e)
def rIxD (G : Gc) : R2 := fun x y H Q => ∃ d M P, MIs G M H ∧ Is G (cut M H) d x ∧ (∃ k, y = .int k ∧ ∃ xs, itemsOf M d = some xs ∧ ∃ e, atI xs k = some e ∧ P e M) ∧ Cl G M H P Q
theorem ixR (g : Good G c k X) : IxR X (rIxD G) := by
  intro value slice pins s σ H x y v u Q I rx ry h hs
  obtain ⟨d, M, P, m, i1, ⟨k, rfl, xs, e1, e, e2, hP⟩, q⟩ := h
  obtain ⟨a, vs, rfl, h1, l1⟩ := items_at m i1 e1
  obtain ⟨w, e3, i2⟩ := atI_L l1 e2
  rw [← g.K] at h1
  refine ix_seq value slice pins s σ H _ _ v u Q I rx ry ?_ hs
  rcases h1 with h1 | h1
  · exact .inl ⟨a, vs, k, w, rfl, rfl, h1, e3, q.at m hP i2⟩
  · exact .inr (.inl ⟨a, vs, k, w, rfl, rfl, h1, e3, q.at m hP i2⟩)
theorem cutA_L {ds : List D} {vs : List V} (l : IsL G H ds vs) (lo hi : Option Int) : IsL G H (cutA ds lo hi) (cutV vs lo hi) := by
  unfold cutA cutV
  rw [l.length]
  exact (l.drop _).take _
def rSlD (G : Gc) : V → Option Int → Option Int → Hp → VK → Prop := fun x lo hi H Q => ∃ d M P, MIs G M H ∧ Is G (cut M H) d x ∧ slD M d lo hi (fun e => P e M) ∧ Cl G M H P Q
theorem sIx0_whole (n : Nat) {lo hi : Option Int} (h : HT.sIx n 0 lo = 0 ∧ HT.sIx n n hi = n) {α : Type} (xs : List α) (e : xs.length = n) : cutA xs lo hi = xs := by
  unfold cutA
  rw [e, h.1, h.2, ← e]
  simp
theorem slR (g : Good G c k X) : SlR X (rSlD G) := by
  intro pins s σ H x v vl vu lo hi sl Q I rx hs pl pu h
  obtain ⟨d, M, P, m, i1, hf, q⟩ := h
  unfold slD at hf
  split at hf
  · obtain ⟨a, vs, e1, h1, l1⟩ := tup_at i1
    rename_i xs
    rw [← g.K] at h1
    refine sl_tupA pins s σ H x v vl vu lo hi sl Q I rx hs pl pu ⟨a, vs, e1, h1, fun hw => ?_, fun _ => fin_tup m q hf (cutA_L l1 lo hi)⟩
    rw [sIx0_whole _ hw xs l1.length] at hf
    rw [e1] at i1
    exact q.at m hf i1
  · obtain ⟨xs, e, hP⟩ := hf
    obtain ⟨a, vs, e1, h1, l1⟩ := lst_at m i1 e
    exact sl_list pins s σ H x v vl vu lo hi sl Q I rx hs pl pu ⟨a, vs, e1, SqL.of h1, fin_lst m q hP (cutA_L l1 lo hi)⟩
end
end Sp
end
section
set_option Elab.async false
set_option linter.all false
set_option maxRecDepth 100000
set_option maxHeartbeats 2000000
/-! Part C2: the built-ins by data; what is walked, by data. -/
namespace Sp
open PySem PySem.Spec PyProof.Rows L2

section
variable {G : Gc} {M M1 : Mem} {H H1 : Hp} {P : D → Mem → Prop} {Q : VK} {X : Cx} {c : Cc} {k : Nat}
def Bi.val : Bi → Value
  | .len => .builtin "len" | .max => .builtin "max" | .min => .builtin "min" | .sum => .builtin "sum" | .all => .builtin "all" | .any => .builtin "any" | .abs => .builtin "abs"
  | .int => .type "int" | .tuple => .type "tuple" | .isqrt => .builtin "math.isqrt" | .sorted => .builtin "sorted"
def rB (G : Gc) (b : Bi) : List V → Hp → VK → Prop := fun vs H Q => ∃ ds M P, MIs G M H ∧ IsL G (cut M H) ds vs ∧ biD b ds M P ∧ Cl G M H P Q
theorem one_L {d : D} {vs : List V} (l : IsL G H [d] vs) : ∃ v, vs = [v] ∧ Is G H d v := by
  obtain ⟨v, r, rfl, h, e⟩ := l
  cases e
  exact ⟨v, rfl, h⟩
theorem minL_le : ∀ {ns : List Int} {i : Int}, ns.foldl min i ≤ i ∧ ∀ y ∈ ns, ns.foldl min i ≤ y
  | [], i => ⟨Int.le_refl _, fun _ h => nomatch h⟩
  | n :: ns, i => by
    obtain ⟨a, b⟩ := @minL_le ns (min i n)
    refine ⟨by show ns.foldl min (min i n) ≤ i; omega, fun y hy => ?_⟩
    show ns.foldl min (min i n) ≤ y
    rcases List.mem_cons.mp hy with rfl | hy
    · omega
    · exact b y hy
theorem minL_mem : ∀ {ns : List Int} {i : Int}, ns.foldl min i = i ∨ ns.foldl min i ∈ ns
  | [], i => .inl rfl
  | n :: ns, i => by
    rcases @minL_mem ns (min i n) with h | h
    · show ns.foldl min (min i n) = i ∨ ns.foldl min (min i n) ∈ n :: ns
      rcases Int.le_total i n with q | q
      · left; omega
      · right; rw [h, show min i n = n by omega]; exact List.mem_cons_self
    · exact .inr (List.mem_cons_of_mem _ h)
theorem minL_eq {ns : List Int} {m : Int} (hm : m ∈ ns) (hl : ∀ y ∈ ns, m ≤ y) : m = minL ns := by
  cases ns with
  | nil => cases hm
  | cons n ns =>
    show m = ns.foldl min n
    obtain ⟨a, b⟩ := @minL_le ns n
    have h1 : ns.foldl min n ≤ m := by
      rcases List.mem_cons.mp hm with rfl | hm
      · exact a
      · exact b _ hm
    have h2 : m ≤ ns.foldl min n := by
      rcases @minL_mem ns n with h | h
      · rw [h]; exact hl _ List.mem_cons_self
      · exact hl _ (List.mem_cons_of_mem _ h)
    omega
theorem biR (g : Good G c k X) (b : Bi) : CallR X b.val (rB G b) := by
  intro pins s σ H vs us Q I r h
  obtain ⟨ds, M, P, m, l, hf, q⟩ := h
  have hc := g.calm
  unfold biD at hf
  split at hf
  · rename_i x
    obtain ⟨v, rfl, i1⟩ := one_L l
    rw [show v = .str x from i1] at r
    exact call_len_str pins s σ H _ us Q I r ⟨x, rfl, Evl.sz_of hf.1, q.at m hf.2 rfl⟩
  · obtain ⟨v, rfl, i1⟩ := one_L l
    obtain ⟨xs, e, hP⟩ := hf
    obtain ⟨a, ws, rfl, h1, l1⟩ := items_at m i1 e
    rw [← g.K] at h1
    exact call_len_seq pins s σ H _ us Q I r ⟨a, ws, rfl, h1, by rw [← l1.length]; exact q.at m hP rfl⟩
  · rename_i i j
    have e := IsL.ints (ns := [i, j]) l
    subst e
    refine call_max2 hc pins s σ H _ us Q I r ⟨i, j, rfl, ?_⟩
    rw [show (if j > i then j else i) = max i j by split <;> omega]
    exact q.at m hf rfl
  · rename_i i j n
    have e := IsL.ints (ns := [i, j, n]) l
    subst e
    exact call_max3I hc pins s σ H _ us Q I r ⟨i, j, n, rfl, q.at m hf rfl⟩
  · rename_i i j n o p
    have e := IsL.ints (ns := [i, j, n, o, p]) l
    subst e
    exact call_max5I hc pins s σ H _ us Q I r ⟨i, j, n, o, p, rfl, q.at m hf rfl⟩
  · rename_i i j
    have e := IsL.ints (ns := [i, j]) l
    subst e
    refine call_min2 hc pins s σ H _ us Q I r ⟨i, j, rfl, ?_⟩
    rw [show (if j < i then j else i) = min i j by split <;> omega]
    exact q.at m hf rfl
  · obtain ⟨v, rfl, i1⟩ := one_L l
    obtain ⟨ns, e, hne, hP⟩ := hf
    obtain ⟨a, ws, rfl, h1, l1⟩ := lst_at m i1 e
    rw [l1.ints] at h1
    refine cr_min hc pins s σ H _ us Q I r ⟨a, ns, rfl, SqL.of h1, List.length_pos_iff.mpr hne, fun n hn hl => ?_⟩
    rw [minL_eq hn hl]
    exact q.at m hP rfl
  · obtain ⟨v, rfl, i1⟩ := one_L l
    obtain ⟨ns, e, hP⟩ := hf
    obtain ⟨a, ws, rfl, h1, l1⟩ := lst_at m i1 e
    rw [l1.ints] at h1
    exact cr_sum hc pins s σ H _ us Q I r ⟨a, ns, rfl, SqL.of h1, q.at m hP rfl⟩
  · obtain ⟨v, rfl, i1⟩ := one_L l
    obtain ⟨ns, e, hP⟩ := hf
    obtain ⟨a, ws, rfl, h1, l1⟩ := lst_at m i1 e
    rw [l1.bls] at h1
    exact cr_all hc pins s σ H _ us Q I r ⟨a, ns, rfl, SqL.of h1, q.at m hP rfl⟩
  · obtain ⟨v, rfl, i1⟩ := one_L l
    obtain ⟨ns, e, hP⟩ := hf
    obtain ⟨a, ws, rfl, h1, l1⟩ := lst_at m i1 e
    rw [l1.bls] at h1
    exact cr_any hc pins s σ H _ us Q I r ⟨a, ns, rfl, SqL.of h1, q.at m hP rfl⟩
  · rename_i i
    have e := IsL.ints (ns := [i]) l
    subst e
    exact call_abs pins s σ H _ us Q I r ⟨i, rfl, q.at m hf rfl⟩
  · rename_i i
    have e := IsL.ints (ns := [i]) l
    subst e
    exact call_int1 pins s σ H _ us Q I r (.inl ⟨i, rfl, q.at m hf rfl⟩)
  · rename_i i
    have e := IsL.bls (bs := [i]) l
    subst e
    exact call_int1 pins s σ H _ us Q I r (.inr ⟨i, rfl, q.at m hf rfl⟩)
  · obtain ⟨v, rfl, i1⟩ := one_L l
    obtain ⟨a, ws, e1, h1, l1⟩ := tup_at i1
    rw [← g.K] at h1
    subst e1
    exact call_tuple_of pins s σ H _ us Q I r ⟨a, ws, rfl, .inr ⟨h1, q.at m hf i1⟩⟩
  · obtain ⟨v, rfl, i1⟩ := one_L l
    obtain ⟨xs, e, hP⟩ := hf
    obtain ⟨a, ws, rfl, h1, l1⟩ := lst_at m i1 e
    exact call_tuple_of pins s σ H _ us Q I r ⟨a, ws, rfl, .inl ⟨SqL.of h1, fin_tup m q hP l1⟩⟩
  · rename_i i
    have e := IsL.ints (ns := [i]) l
    subst e
    exact call_isqrt pins s σ H _ us Q I r ⟨i, rfl, hf.1, q.at m hf.2 rfl⟩
  · obtain ⟨v, rfl, i1⟩ := one_L l
    obtain ⟨ns, e, h64, hP⟩ := hf
    obtain ⟨a, ws, rfl, h1, l1⟩ := lst_at m i1 e
    rw [l1.ints] at h1
    exact cr_sorted pins s σ H _ us Q I r ⟨a, ns, rfl, SqL.of h1, h64, fun ns' p pm pw hp => fin_lst m q (hP ns' pm pw) IsL.ofInts p hp⟩
  · exact hf.elim

/-! ### what is walked -/
def WF (G : Gc) (J : L2.It) (xs : List D) (Hb : Hp) : Prop := ∃ Y, Walk J xs.length (fun H => Ex Hb H) Y ∧ ∀ i H v H', i < xs.length → Ex Hb H → Y i H v H' → Ex H H' ∧
  ∃ d, xs[i]? = some d ∧ ∀ M, MIs G M H → Ex Hb (cut M H) → Is G (cut M H') d v
def WD (G : Gc) (J : L2.It) (xs : List D) (M1 : Mem) (Hb : Hp) : Prop := ∃ Y, Walk J xs.length (fun H => ∃ M, M1.le M ∧ MIs G M H ∧ Ex Hb (cut M H)) Y ∧ ∀ i H v H', i < xs.length → Y i H v H' → (∃ M, M1.le M ∧ MIs G M H ∧ Ex Hb (cut M H)) → Ex H H' ∧
  ∃ d, xs[i]? = some d ∧ ∀ M, M1.le M → MIs G M H → Ex Hb (cut M H) → Is G (cut M H') d v
theorem WF.wd {J : L2.It} {xs : List D} {Hb : Hp} (w : WF G J xs Hb) : WD G J xs M1 Hb := by
  obtain ⟨Y, w1, w2⟩ := w
  refine ⟨Y, w1.mono (fun H ⟨M, _, _, e⟩ => Evl.Ex.trans e cut_le) fun _ _ _ _ _ _ y => y, fun i H v H' hi y ⟨M, _, _, e⟩ => ?_⟩
  obtain ⟨a, d, h1, h2⟩ := w2 i H v H' hi (Evl.Ex.trans e cut_le) y
  exact ⟨a, d, h1, fun M _ m e => h2 M m e⟩
theorem wf_list {a : Addr} {vs : List V} {ds : List D} {Hb : Hp} (h : Hb a = some (.lst vs)) (l : IsL G Hb ds vs) : WF G (Itl G.K a) ds Hb := by
  refine ⟨YAt vs, ?_, fun i H v H' hi e y => ?_⟩
  · rw [l.length]
    exact walk_list.mono (fun H e => SqL.of (e _ _ h)) fun _ _ _ _ _ _ y => y
  · obtain ⟨rfl, y2⟩ := y
    obtain ⟨d, h1, h2⟩ := l.get' y2
    exact ⟨Evl.Ex.refl _, d, h1, fun M m e => h2.mono e⟩
theorem wf_tup {a : Addr} {vs : List V} {ds : List D} {Hb : Hp} (h : SqT G.K Hb a vs) (l : IsL G Hb ds vs) : WF G (Itt G.K a) ds Hb := by
  refine ⟨YAt vs, ?_, fun i H v H' hi e y => ?_⟩
  · rw [l.length]
    exact walk_tup.mono (fun H e => Evl.ex_t e h) fun _ _ _ _ _ _ y => y
  · obtain ⟨rfl, y2⟩ := y
    obtain ⟨d, h1, h2⟩ := l.get' y2
    exact ⟨Evl.Ex.refl _, d, h1, fun M m e => h2.mono e⟩
theorem wf_str {x : Str} {Hb : Hp} : WF G (Its x) (signs x) Hb := by
  have hl : (signs x).length = x.cps.size := by unfold signs; simp
  refine ⟨fun i H v H' => H' = H ∧ ∃ c, x.cps[i]? = some c ∧ v = .str ⟨#[c]⟩, ?_, fun i H v H' hi e y => ?_⟩
  · rw [hl]
    exact walk_str.mono (fun H _ => trivial) fun _ _ _ _ _ _ y => y
  · obtain ⟨rfl, cc, h1, rfl⟩ := y
    refine ⟨Evl.Ex.refl _, .str ⟨#[cc]⟩, ?_, fun M m e => rfl⟩
    unfold signs
    rw [List.getElem?_map]
    rw [show x.cps.toList[i]? = some cc by simpa using h1]
    rfl
theorem wf_rng {lo : Int} {n : Nat} {Hb : Hp} : WF G (Itr lo n) ((List.range n).map fun (i : Nat) => D.int (lo + (i : Int))) Hb := by
  have hl : ((List.range n).map fun (i : Nat) => D.int (lo + (i : Int))).length = n := by simp
  refine ⟨YFn fun i => .int (lo + i), ?_, fun i H v H' hi e y => ?_⟩
  · rw [hl]
    exact walk_range.mono (fun H _ => trivial) fun _ _ _ _ _ _ y => y
  · obtain ⟨rfl, rfl⟩ := y
    rw [hl] at hi
    exact ⟨Evl.Ex.refl _, .int (lo + i), by simp [hi], fun M m e => rfl⟩
theorem pair_is {T : Addr} {d1 d2 : D} {x y : V} {Hb : Hp} (h1 : Is G Hb d1 x) (h2 : Is G Hb d2 y) (hT : H T = none) (m : MIs G M H) (e : Ex Hb (cut M H)) : Is G (cut M (upd H T (.tup [x, y]))) (.tup [d1, d2]) (.ref T) := by
  have e2 : Ex Hb (cut M (upd H T (.tup [x, y]))) := Evl.Ex.trans e (cut_mono (Evl.Ex.new hT))
  exact ⟨T, [x, y], rfl, SqT.of (cut_of (m.free hT) upd_same), IsL.cons (h1.mono e2) (IsL.cons (h2.mono e2) IsL.nil)⟩
theorem wf_pair {J : L2.It} {ds es : List D} {vs ws : List V} {Hb : Hp} {n : Nat} (hn : n = min vs.length ws.length) (w : Walk J n (fun H => Ex Hb H) (YPair (fun i => vs[i]?) (fun i => ws[i]?))) (l1 : IsL G Hb ds vs) (l2 : IsL G Hb es ws) :
    WF G J (List.zipWith (fun u v => .tup [u, v]) ds es) Hb := by
  have hl : (List.zipWith (fun u v => D.tup [u, v]) ds es).length = n := by rw [List.length_zipWith, l1.length, l2.length, hn]
  refine ⟨YPair (fun i => vs[i]?) (fun i => ws[i]?), ?_, fun i H v H' hi e y => ?_⟩
  · rw [hl]; exact w
  · obtain ⟨T, x, y, rfl, hT, rfl, h1, h2⟩ := y
    obtain ⟨d1, g1, i1⟩ := l1.get' h1
    obtain ⟨d2, g2, i2⟩ := l2.get' h2
    refine ⟨Evl.Ex.new hT, .tup [d1, d2], ?_, fun M m e => pair_is i1 i2 hT m e⟩
    rw [List.getElem?_zipWith, g1, g2]
theorem wf_zipL {a b : Addr} {vs ws : List V} {ds es : List D} {Hb : Hp} (h1 : Hb a = some (.lst vs)) (h2 : Hb b = some (.lst ws)) (l1 : IsL G Hb ds vs) (l2 : IsL G Hb es ws) : WF G (Itz G.K a b) (List.zipWith (fun u v => .tup [u, v]) ds es) Hb :=
  wf_pair rfl ((walk_zip rfl).mono (fun H e => ⟨SqL.of (e _ _ h1), SqL.of (e _ _ h2)⟩) fun _ _ _ _ _ _ y => y) l1 l2
theorem wf_zipT {a b : Addr} {vs ws : List V} {ds es : List D} {Hb : Hp} (h1 : SqT G.K Hb a vs) (h2 : SqT G.K Hb b ws) (l1 : IsL G Hb ds vs) (l2 : IsL G Hb es ws) : WF G (RZ.ItzT G.K a b) (List.zipWith (fun u v => .tup [u, v]) ds es) Hb := by
  refine wf_pair rfl ⟨fun i H hi e => ?_, fun H e => ⟨vs, ws, Evl.ex_t e h1, Evl.ex_t e h2, by omega⟩, fun i H v H' hi e y => ?_⟩ l1 l2
  · have q1 : i < vs.length := by omega
    have q2 : i < ws.length := by omega
    exact ⟨vs, ws, vs[i], ws[i], Evl.ex_t e h1, Evl.ex_t e h2, by simp [q1], by simp [q2]⟩
  · obtain ⟨T, x, z, y1, y2, y3, y4, y5⟩ := y
    exact ⟨T, x, z, y1, y2, y3, y4 _ (Evl.ex_t e h1), y5 _ (Evl.ex_t e h2)⟩
theorem wf_zipM {a b : Addr} {vs ws : List V} {ds es : List D} {Hb : Hp} (h1 : Hb a = some (.lst vs)) (h2 : SqT G.K Hb b ws) (l1 : IsL G Hb ds vs) (l2 : IsL G Hb es ws) : WF G (ItzM G.K a b) (List.zipWith (fun u v => .tup [u, v]) ds es) Hb := by
  refine wf_pair rfl ⟨fun i H hi e => ?_, fun H e => ⟨vs, ws, SqL.of (e _ _ h1), Evl.ex_t e h2, rfl⟩, fun i H v H' hi e y => ?_⟩ l1 l2
  · have q1 : i < vs.length := by omega
    have q2 : i < ws.length := by omega
    exact ⟨vs, ws, vs[i], ws[i], SqL.of (e _ _ h1), Evl.ex_t e h2, by simp [q1], by simp [q2]⟩
  · obtain ⟨T, x, z, y1, y2, y3, y4, y5⟩ := y
    exact ⟨T, x, z, y1, y2, y3, y4 _ (SqL.of (e _ _ h1)), y5 _ (Evl.ex_t e h2)⟩
theorem wf_enum {J : L2.It} {ds : List D} {vs : List V} {Hb : Hp} (w : Walk J vs.length (fun H => Ex Hb H) (YPair (fun i => some (.int (i : Nat))) (fun i => vs[i]?))) (l : IsL G Hb ds vs) :
    WF G J (List.zipWith (fun (i : Nat) u => D.tup [.int (i : Int), u]) (List.range ds.length) ds) Hb := by
  have hl : (List.zipWith (fun (i : Nat) u => D.tup [.int (i : Int), u]) (List.range ds.length) ds).length = vs.length := by rw [List.length_zipWith, List.length_range, l.length]; omega
  refine ⟨YPair (fun i => some (.int (i : Nat))) (fun i => vs[i]?), ?_, fun i H v H' hi e y => ?_⟩
  · rw [hl]; exact w
  · obtain ⟨T, x, y, rfl, hT, rfl, h1, h2⟩ := y
    cases h1
    obtain ⟨d2, g2, i2⟩ := l.get' h2
    refine ⟨Evl.Ex.new hT, .tup [.int (i : Nat), d2], ?_, fun M m e => pair_is (d1 := .int (i : Nat)) (Hb := Hb) rfl i2 hT m e⟩
    have hi2 : i < ds.length := (List.getElem?_eq_some_iff.mp g2).1
    rw [List.getElem?_zipWith, g2, List.getElem?_range hi2]
theorem wf_enumL {a : Addr} {vs : List V} {ds : List D} {Hb : Hp} (h : Hb a = some (.lst vs)) (l : IsL G Hb ds vs) : WF G (Ite G.K a) (List.zipWith (fun (i : Nat) u => D.tup [.int (i : Int), u]) (List.range ds.length) ds) Hb :=
  wf_enum (walk_enum.mono (fun H e => SqL.of (e _ _ h)) fun _ _ _ _ _ _ y => y) l
theorem wf_enumT {a : Addr} {vs : List V} {ds : List D} {Hb : Hp} (h : SqT G.K Hb a vs) (l : IsL G Hb ds vs) : WF G (IteT G.K a) (List.zipWith (fun (i : Nat) u => D.tup [.int (i : Int), u]) (List.range ds.length) ds) Hb := by
  refine wf_enum ⟨fun i H hi e => ⟨vs, vs[i], Evl.ex_t e h, by simp [hi]⟩, fun H e => ⟨vs, Evl.ex_t e h, rfl⟩, fun i H v H' hi e y => ?_⟩ l
  obtain ⟨T, x, y1, y2, y3, y4⟩ := y
  exact ⟨T, _, x, y1, y2, y3, rfl, y4 _ (Evl.ex_t e h)⟩
theorem wd_mem {a : Addr} {xs : List D} {Hb : Hp} (h : M1 a = some (.lst xs)) : WD G (Itl G.K a) xs M1 Hb := by
  have key : ∀ H, (∃ M, M1.le M ∧ MIs G M H ∧ Ex Hb (cut M H)) → ∃ vs, H a = some (.lst vs) ∧ vs.length = xs.length := fun H ⟨M, l, m, _⟩ => by
    obtain ⟨vs, h1, h2⟩ := m.lst (l _ _ h)
    exact ⟨vs, h1, h2.length.symm⟩
  refine ⟨fun i H v H' => H' = H ∧ ∀ vs, H a = some (.lst vs) → vs[i]? = some v, ⟨fun i H hi w => ?_, fun H w => ?_, fun i H v H' hi w y => ?_⟩, fun i H v H' hi y w => ?_⟩
  · obtain ⟨vs, h1, h2⟩ := key H w
    have hv : i < vs.length := by omega
    exact ⟨vs, vs[i], SqL.of h1, by simp [hv]⟩
  · obtain ⟨vs, h1, h2⟩ := key H w
    exact ⟨vs, SqL.of h1, by omega⟩
  · exact ⟨y.1, fun vs h1 => y.2 vs (SqL.of h1)⟩
  · obtain ⟨rfl, y2⟩ := y
    obtain ⟨M, l, m, _⟩ := w
    obtain ⟨vs, h1, h2⟩ := m.lst (l _ _ h)
    obtain ⟨d, g1, g2⟩ := h2.get' (y2 vs h1)
    refine ⟨Evl.Ex.refl _, d, g1, fun M' l' m' _ => ?_⟩
    obtain ⟨vs', h1', h2'⟩ := m'.lst (l' _ _ h)
    rw [h1] at h1'; cases h1'
    obtain ⟨d', g1', g2'⟩ := h2'.get' (y2 vs h1)
    rw [g1] at g1'; cases g1'
    exact g2'
end
end Sp
end
section
set_option Elab.async false
set_option linter.all false
set_option maxRecDepth 100000
set_option maxHeartbeats 2000000
/-! Part C3: an expression that matches does what is wanted. -/
namespace Sp
open PySem PySem.Spec PyProof.Rows L2

theorem PE.imp {X : Cx} {e : Expr} {t t' : TE} (h : PE X e t) (hi : ∀ σ H Q, t' σ H Q → t σ H Q) : PE X e t' := ⟨fun pins s σ H Q I hw => h.run pins s σ H Q I (hi σ H Q hw)⟩
theorem PT.imp {X : Cx} {e : Expr} {t t' : TT} (h : PT X e t) (hi : ∀ σ H Q, t' σ H Q → t σ H Q) : PT X e t' := ⟨fun pins s σ H Q I hw => h.run pins s σ H Q I (hi σ H Q hw)⟩
theorem PW.imp {X : Cx} {e : Expr} {t t' : TT} (h : PW X e t) (hi : ∀ σ H Q, t' σ H Q → t σ H Q) : PW X e t' := ⟨fun w pins s σ H Q I hw => h.run w pins s σ H Q I (hi σ H Q hw)⟩
theorem PA.imp {X : Cx} {es : List Expr} {t t' : TA} (h : PA X es t) (hi : ∀ σ H Q, t' σ H Q → t σ H Q) : PA X es t' := ⟨fun pos pins s σ H Q I hw => h.run pos pins s σ H Q I (hi σ H Q hw)⟩
theorem PK.imp {X : Cx} {es : List Keyword} {t t' : TA} (h : PK X es t) (hi : ∀ σ H Q, t' σ H Q → t σ H Q) : PK X es t' := ⟨fun pos pins s σ H Q I hw => h.run pos pins s σ H Q I (hi σ H Q hw)⟩
theorem PI.imp {X : Cx} {tg e : Expr} {t t' : TI} (h : PI X tg e t) (hi : ∀ σ H Q, t' σ H Q → t σ H Q) : PI X tg e t' := ⟨fun pins s σ H Q I hw => h.run pins s σ H Q I (hi σ H Q hw)⟩
theorem PTs.imp {X : Cx} {e : List Expr} {t t' : TT} (h : PTs X e t) (hi : ∀ σ H Q, t' σ H Q → t σ H Q) : PTs X e t' := ⟨fun pins s σ H Q I hw => h.run pins s σ H Q I (hi σ H Q hw)⟩

/-! ### forms -/
def noCall0 : Expr → Bool | .Call (.Name _ _) [] [] _ => false | _ => true
def nst : Expr → Bool | .Starred .. => false | _ => true
def noSl : Expr → Bool | .Slice .. => false | _ => true
def noSet : Expr → Bool | .Set .. => false | _ => true
theorem ab_of {x : Expr} {f : Str} {env : PySem.Env} {w : Sem Value} (h : noCall0 x = true) : attributeBase x f env w = w := by
  unfold attributeBase
  split
  · simp [noCall0] at h
  · rfl
theorem star_cons {x : Expr} {xs : List Expr} {env : PySem.Env} (h : nst x = true) : starEach (x :: xs) env = (false, eval x env) :: starEach xs env := by
  cases x <;> first | rfl | (simp [nst] at h)
theorem star_plain {pos : Pos} {env : PySem.Env} : ∀ {xs : List Expr}, xs.all nst = true → (backTo pos (starEach xs env)).any (·.1) = false
  | [], _ => rfl
  | x :: xs, h => by
    rw [List.all_cons, Bool.and_eq_true] at h
    rw [star_cons h.1]
    show (false || (backTo pos (starEach xs env)).any (·.1)) = false
    rw [star_plain h.2]; rfl
theorem ix_plain {x : Expr} (h : noSl x = true) : PlainIx x := fun o i => by
  cases x <;> first | rfl | (simp [noSl] at h)
theorem folded_of {x : Expr} {env : PySem.Env} (h : noSet x = true) : ∀ v, foldedSetIterable x env v = pure v := fun v => by
  cases x <;> first | rfl | (simp [noSet] at h)
theorem mark_of {op : CmpOp} {b : Expr} (h : notMark op b = true) : behindInMarks op b = false := by
  cases b <;> first | rfl | (simp [notMark] at h)
def form (x : Expr) : Bool := noCall0 x && nst x && noSl x && noSet x
theorem form_of {c : Cc} : ∀ (e : E) {x : Expr}, chkE c e x = true → form x = true
  | .frz a, x, h => form_of a (by simpa [chkE] using h)
  | .var _, x, h => by simp only [chkE] at h; split at h <;> first | rfl | cases h
  | .int _, x, h => by simp only [chkE] at h; split at h <;> first | rfl | cases h
  | .str _, x, h => by simp only [chkE] at h; split at h <;> first | rfl | cases h
  | .non, x, h => by simp only [chkE] at h; split at h <;> first | rfl | cases h
  | .bl _, x, h => by simp only [chkE] at h; split at h <;> first | rfl | cases h
  | .glob _, x, h => by simp only [chkE] at h; split at h <;> first | rfl | cases h
  | .op _ _ _, x, h => by simp only [chkE] at h; split at h <;> first | rfl | cases h
  | .neg _, x, h => by simp only [chkE] at h; split at h <;> first | rfl | cases h
  | .cmp _ _ _, x, h => by simp only [chkE] at h; split at h <;> first | rfl | cases h
  | .isN _, x, h => by simp only [chkE] at h; split at h <;> first | rfl | cases h
  | .notN _, x, h => by simp only [chkE] at h; split at h <;> first | rfl | cases h
  | .ch2 _ _ _ _ _, x, h => by simp only [chkE] at h; split at h <;> first | rfl | cases h
  | .ch3 _ _ _ _ _ _ _, x, h => by simp only [chkE] at h; split at h <;> first | rfl | cases h
  | .and _ _, x, h => by simp only [chkE] at h; split at h <;> first | rfl | cases h
  | .or _ _, x, h => by simp only [chkE] at h; split at h <;> first | rfl | cases h
  | .not _, x, h => by simp only [chkE] at h; split at h <;> first | rfl | cases h
  | .ife _ _ _, x, h => by simp only [chkE] at h; split at h <;> first | rfl | cases h
  | .attr _ _, x, h => by simp only [chkE] at h; split at h <;> first | rfl | cases h
  | .idx _ _, x, h => by simp only [chkE] at h; split at h <;> first | rfl | cases h
  | .slLo _ _, x, h => by simp only [chkE] at h; split at h <;> first | rfl | cases h
  | .slHi _ _, x, h => by simp only [chkE] at h; split at h <;> first | rfl | cases h
  | .slB _ _ _, x, h => by simp only [chkE] at h; split at h <;> first | rfl | cases h
  | .rev _, x, h => by simp only [chkE] at h; split at h <;> first | rfl | cases h
  | .lst _, x, h => by simp only [chkE] at h; split at h <;> first | rfl | cases h
  | .lstM _, x, h => by simp only [chkE] at h; split at h <;> first | rfl | cases h
  | .tup _, x, h => by simp only [chkE] at h; split at h <;> first | rfl | cases h
  | .repM _ _, x, h => by simp only [chkE] at h; split at h <;> first | rfl | cases h
  | .lc _ _ _ _ _, x, h => by simp only [chkE] at h; split at h <;> first | rfl | cases h
  | .call _ _ _, x, h => by simp only [chkE] at h; split at h <;> first | rfl | cases h
  | .meth _ _ _ _, x, h => by simp only [chkE] at h; split at h <;> first | rfl | cases h
  | .bi _ _, x, h => by simp only [chkE] at h; split at h <;> first | rfl | cases h
  | .isP _, x, h => by simp only [chkE] at h; split at h <;> first | rfl | cases h
  | .inP _, x, h => by simp only [chkE] at h; split at h <;> first | rfl | cases h
  | .pop _, x, h => by simp only [chkE] at h; split at h <;> first | rfl | cases h
section
variable {c : Cc} {e : E} {x : Expr}
theorem form_nc (h : chkE c e x = true) : noCall0 x = true := by have := form_of e h; unfold form at this; simp only [Bool.and_eq_true] at this; exact this.1.1.1
theorem form_ns (h : chkE c e x = true) : nst x = true := by have := form_of e h; unfold form at this; simp only [Bool.and_eq_true] at this; exact this.1.1.2
theorem form_sl (h : chkE c e x = true) : noSl x = true := by have := form_of e h; unfold form at this; simp only [Bool.and_eq_true] at this; exact this.1.2
theorem form_se (h : chkE c e x = true) : noSet x = true := by have := form_of e h; unfold form at this; simp only [Bool.and_eq_true] at this; exact this.2
end

/-! ### readings by data -/
def tE (G : Gc) (e : E) : TE := fun σ H Q => ∃ ρ M P, StIs G M H σ ρ ∧ wpE e ρ M P ∧ Cl G M H P Q
def tT (G : Gc) (e : E) : TT := fun σ H Q => ∃ ρ M P, StIs G M H σ ρ ∧ wpE e ρ M P ∧ ∀ d M' v H', P d M' → Rch M H M' H' → MIs G M' H' → Is G (cut M' H') d v → ∃ b, truD M' d = some b ∧ Q b H'
def tEs (G : Gc) (es : Es) (n : Nat) : TA := fun σ H Q => ∃ ρ M P, StIs G M H σ ρ ∧ wpEs es ρ M P ∧ ∀ ds M' vs H', P ds M' → vs.length = n → Rch M H M' H' → MIs G M' H' → IsL G (cut M' H') ds vs → Q vs H'
def tIt (G : Gc) (it : It) : TI := fun σ H R => ∃ ρ M P, StIs G M H σ ρ ∧ wpIt it ρ M P ∧ ∀ xs M' J H', P xs M' → Rch M H M' H' → MIs G M' H' → WD G J xs M' (cut M' H') → (isM it = false → WF G J xs (cut M' H')) → R J H'
/-- a promise by data -/
def spOf (G : Gc) (sem : Sm) : L2.Sp := fun vs H Q _ => ∃ ds M P, MIs G M H ∧ IsL G (cut M H) ds vs ∧ sem ds M P ∧ Cl G M H P Q
def MonoA (t : TA) : Prop := ∀ σ H Q Q', (∀ vs H', Q vs H' → Q' vs H') → t σ H Q → t σ H Q'
def MonoE (t : TE) : Prop := ∀ σ H Q Q', (∀ v H', Q v H' → Q' v H') → t σ H Q → t σ H Q'
theorem mono_es {G : Gc} {es : Es} {n : Nat} : MonoA (tEs G es n) := fun σ H Q Q' h ⟨ρ, M, P, st, w, q⟩ => ⟨ρ, M, P, st, w, fun ds M' vs H' p l r m i => h _ _ (q ds M' vs H' p l r m i)⟩
theorem mono_e {G : Gc} {e : E} : MonoE (tE G e) := fun σ H Q Q' h ⟨ρ, M, P, st, w, q⟩ => ⟨ρ, M, P, st, w, fun ds M' vs H' p r m i => h _ _ (q ds M' vs H' p r m i)⟩
def CallOk (G : Gc) (k : Nat) (f : Ent) : Prop := ∀ (X : Cx) (c : Cc), Good G c k X → ∀ (p pos : Pos) (a : Expr) (as : List Expr) (t : TA), Gl X f.name → PA X (a :: as) t → MonoA t → (a :: as).all nst = true → (f.name == ("__debug__" : Str)) = false →
  (f.kws = [] → PE X (.Call (.Name f.name p) (a :: as) [] pos) (fun σ H Q => t σ H fun vs H1 => vs.length = f.n ∧ spOf G f.sem vs H1 Q E0)) ∧
  (f.kws ≠ [] → ∀ (kws : List Keyword) (tk : TA), PK X kws tk → MonoA tk → kws.map (·.arg) = f.kws.map some →
    PE X (.Call (.Name f.name p) (a :: as) kws pos) (fun σ H Q => t σ H fun vs H1 => tk σ H1 fun zs H2 => vs.length = f.n ∧ zs.length = f.kws.length ∧ spOf G f.sem (vs ++ zs) H2 Q E0))
def MethOk (G : Gc) (k : Nat) (cl : Nat) (f : Ent) : Prop := ∀ (X : Cx) (c : Cc), Good G c k X → ∀ (y : Str) (p ap pos : Pos) (to : TE) (a : Expr) (as : List Expr) (t : TA), PE X (.Name y p) to → MonoE to → PA X (a :: as) t → MonoA t → (a :: as).all nst = true → (ap.endLine == pos.line) = true → (a :: as).length ≤ 20 →
  PE X (.Call (.Attribute (.Name y p) f.name ap) (a :: as) [] pos) (fun σ H Q => to σ H fun x H1 => (∃ a dx vs, x = .ref a ∧ H1 a = some (.ins (G.ca cl) dx ((cn cl).zip vs))) ∧ t σ H1 fun vs H2 => spOf G f.sem (x :: vs) H2 Q E0)

mutual
def allE (pc : Ent → Prop) (pm : Nat → Ent → Prop) : E → Prop
  | .op _ a b => allE pc pm a ∧ allE pc pm b
  | .neg a => allE pc pm a
  | .cmp _ a b => allE pc pm a ∧ allE pc pm b
  | .isN a => allE pc pm a
  | .notN a => allE pc pm a
  | .ch2 _ _ a b d => allE pc pm a ∧ allE pc pm b ∧ allE pc pm d
  | .ch3 _ _ _ a b d e => allE pc pm a ∧ allE pc pm b ∧ allE pc pm d ∧ allE pc pm e
  | .and a b => allE pc pm a ∧ allE pc pm b
  | .or a b => allE pc pm a ∧ allE pc pm b
  | .not a => allE pc pm a
  | .ife c a b => allE pc pm c ∧ allE pc pm a ∧ allE pc pm b
  | .attr a _ => allE pc pm a
  | .idx a b => allE pc pm a ∧ allE pc pm b
  | .slLo a b => allE pc pm a ∧ allE pc pm b
  | .slHi a b => allE pc pm a ∧ allE pc pm b
  | .slB a b d => allE pc pm a ∧ allE pc pm b ∧ allE pc pm d
  | .rev a => allE pc pm a
  | .lst es => allEs pc pm es
  | .lstM es => allEs pc pm es
  | .tup es => allEs pc pm es
  | .repM a b => allE pc pm a ∧ allE pc pm b
  | .lc a _ it q _ => allE pc pm a ∧ allIt pc pm it ∧ allE pc pm q
  | .call f es ks => pc f ∧ allEs pc pm es ∧ allEs pc pm ks
  | .meth c f o es => pm c f ∧ allE pc pm o ∧ allEs pc pm es
  | .bi _ es => allEs pc pm es
  | .isP a => allE pc pm a
  | .inP a => allE pc pm a
  | .pop a => allE pc pm a
  | .frz a => allE pc pm a
  | _ => True
def allEs (pc : Ent → Prop) (pm : Nat → Ent → Prop) : Es → Prop
  | .nil => True
  | .cons e r => allE pc pm e ∧ allEs pc pm r
def allIt (pc : Ent → Prop) (pm : Nat → Ent → Prop) : It → Prop
  | .seq e => allE pc pm e
  | .seqM e => allE pc pm e
  | .rng1 e => allE pc pm e
  | .rng2 a b => allE pc pm a ∧ allE pc pm b
  | .zip a b => allE pc pm a ∧ allE pc pm b
  | .enum e => allE pc pm e
end

def isBO : Expr → Bool | .BoolOp .. => true | _ => false
def plainT : Expr → Bool | .UnaryOp .Not .. => false | .BoolOp .. => false | .IfExp .. => false | .Compare .. => false | _ => true
section
variable {G : Gc} {M M1 : Mem} {H H1 : Hp} {Q : VK} {X : Cx} {c : Cc} {k : Nat}
/-- what is shown of an expression -/
structure Snd (G : Gc) (k : Nat) (e : E) : Prop where
  pe : ∀ {c : Cc} {X : Cx} {x : Expr}, Good G c k X → chkE c e x = true → PE X x (tE G e)
  pt : ∀ {c : Cc} {X : Cx} {x : Expr}, Good G c k X → chkE c e x = true → tst e = true → PT X x (tT G e) ∧ (isBO x = true → PW X x (tT G e))
structure SndA (G : Gc) (k : Nat) (es : Es) : Prop where
  pa : ∀ {c : Cc} {X : Cx} {xs : List Expr}, Good G c k X → chkEs c es xs = true → PA X xs (tEs G es xs.length) ∧ xs.all nst = true
  pk : ∀ {c : Cc} {X : Cx} {ns : List Str} {ks : List Keyword}, Good G c k X → chkKs c es ns ks = true → PK X ks (tEs G es ks.length) ∧ ks.map (·.arg) = ns.map some
def SndI (G : Gc) (k : Nat) (it : It) : Prop := ∀ {c : Cc} {X : Cx} {x tg : Expr}, Good G c k X → chkIt c it x tg = true → PI X tg x (tIt G it) ∧ noSet x = true

theorem tru_V (m : MIs G M H) : ∀ {d : D} {v : V} {b : Bool}, truD M d = some b → Is G (cut M H) d v → TruV G.K v H b
  | .bl b', v, b, e, i => by cases e; rw [show v = .bl b' from i]; rfl
  | .non, v, b, e, i => by cases e; rw [show v = .non from i]; rfl
  | .tup xs, v, b, e, i => by
    cases e
    obtain ⟨a, vs, h1, h2, h3⟩ := tup_at i
    rw [h1]
    refine .inr (.inl ⟨vs, h2, ?_⟩)
    have := h3.length
    cases xs <;> cases vs <;> simp at this ⊢
  | .lst xs, v, b, e, i => by
    cases e
    obtain ⟨a, vs, h1, h2, h3⟩ := lst_at m i rfl
    rw [h1]
    refine .inl ⟨vs, SqL.of h2, ?_⟩
    have := h3.length
    cases xs <;> cases vs <;> simp at this ⊢
  | .adr a, v, b, e, i => by
    simp only [truD, Option.map_eq_some_iff] at e
    obtain ⟨xs, e1, e2⟩ := e
    obtain ⟨a, vs, h1, h2, h3⟩ := lst_at m i e1
    rw [h1]
    refine .inl ⟨vs, SqL.of h2, ?_⟩
    rw [← e2]
    have := h3.length
    cases xs <;> cases vs <;> simp at this ⊢
/-- a test by the value's truth -/
theorem pt_of {e : E} {x : Expr} (g : Good G c k X) (h : PE X x (tE G e)) (hx : plainT x = true) : PT X x (tT G e) := by
  refine PT.imp (pt_truth h fun whole => ?_) fun σ H Q ⟨ρ, M, P, st, hw, q⟩ => ⟨ρ, M, P, st, hw, fun d M' v H' p r m i => ?_⟩
  · cases x <;> first | rfl | (simp [plainT] at hx)
    rename_i op a pos
    cases op <;> first | rfl | (simp [plainT] at hx)
  · obtain ⟨b, h1, h2⟩ := q d M' v H' p r m i
    rw [g.K]
    exact ⟨b, tru_V m h1 i, h2⟩
theorem q_bl {P : D → Mem → Prop} {Q : Bool → Hp → Prop} (q : ∀ d M' v H', P d M' → Rch M H M' H' → MIs G M' H' → Is G (cut M' H') d v → ∃ b, truD M' d = some b ∧ Q b H') :
    ∀ k M' H', P (.bl k) M' → Rch M H M' H' → MIs G M' H' → ∃ k', V.bl k = .bl k' ∧ Q k' H' := fun k M' H' p r m => by
  obtain ⟨b, h1, h2⟩ := q (.bl k) M' (.bl k) H' p r m rfl
  cases h1
  exact ⟨k, rfl, h2⟩
/-- the wish at the bools -/
def ClB (G : Gc) (M : Mem) (H : Hp) (P : D → Mem → Prop) (Q : VK) : Prop := ∀ k M' H', P (.bl k) M' → Rch M H M' H' → MIs G M' H' → Q (.bl k) H'
theorem Cl.b {P : D → Mem → Prop} (q : Cl G M H P Q) : ClB G M H P Q := fun k M' H' p r m => q _ _ _ _ p r m rfl

/-! ### names, constants -/
theorem vis_of {i : Nat} {x : Str} (h : c.vis i x = true) : c.N[i]? = some x ∧ Vis c.sc x ∧ (x == ("__debug__" : Str)) = false ∧ (x == ("__classdict__" : Str)) = false := by
  unfold Cc.vis at h
  simp only [Bool.and_eq_true, decide_eq_true_eq, Bool.not_eq_true'] at h
  obtain ⟨⟨⟨h1, h2⟩, h3⟩, h4⟩ := h
  refine ⟨h1, ?_, h3, h4⟩
  unfold Vis
  split at h2 <;> first | (left; assumption) | (right; left; assumption) | (right; right; assumption) | cases h2
theorem glo_of {x : Str} (g : Good G c k X) (h : c.glo x = true) : Gl X x ∧ (x == ("__debug__" : Str)) = false ∧ x ≠ "__name__" := by
  unfold Cc.glo at h
  simp only [Bool.and_eq_true, decide_eq_true_eq, Bool.not_eq_true'] at h
  obtain ⟨⟨h1, h2⟩, h3⟩ := h
  refine ⟨?_, h2, by simpa using h3⟩
  show X.env.scope.names.lookup x = _
  rw [g.sc]; exact h1
theorem snd_var (i : Nat) : Snd G k (.var i) := by
  have key : ∀ {c : Cc} {X : Cx} {x : Expr}, Good G c k X → chkE c (.var i) x = true → PE X x (tE G (.var i)) := fun {c X x} g h => by
    simp only [chkE] at h
    split at h
    · obtain ⟨h1, h2, h3, h4⟩ := vis_of h
      refine PE.imp (pe_var (i := i) (by rw [g.N]; exact h1) (by rw [g.sc]; exact h2) h3 h4) fun σ H Q ⟨ρ, M, P, st, ⟨d, e, hP⟩, q⟩ => ?_
      obtain ⟨v, e2, i1⟩ := st.loc i d e
      exact ⟨v, e2, q.at st.mem hP i1⟩
    · cases h
  refine ⟨key, fun g h _ => ⟨pt_of g (key g h) ?_, fun hb => ?_⟩⟩
  · simp only [chkE] at h; split at h <;> first | rfl | cases h
  · simp only [chkE] at h; split at h <;> first | cases hb | cases h
/-- an expression that is tested by its value alone -/
theorem Snd.plain {e : E} (key : ∀ {c : Cc} {X : Cx} {x : Expr}, Good G c k X → chkE c e x = true → PE X x (tE G e) ∧ plainT x = true) : Snd G k e :=
  ⟨fun g h => (key g h).1, fun {c X x} g h _ => ⟨pt_of g (key g h).1 (key g h).2, fun hb => by
    have := (key g h).2
    cases x <;> simp [isBO] at hb
    simp [plainT] at this⟩⟩
theorem snd_const {e : E} {d : D} {v : V} (hw : ∀ ρ M P, wpE e ρ M P → P d M) (hv : ∀ H, Is G H d v) (hx : ∀ {c : Cc} {X : Cx} {x : Expr}, chkE c e x = true → PE X x (tC v) ∧ plainT x = true) : Snd G k e :=
  Snd.plain fun {c X x} g h => ⟨PE.imp (hx h).1 fun σ H Q ⟨ρ, M, P, st, w, q⟩ => q.at st.mem (hw _ _ _ w) (hv _), (hx (X := X) h).2⟩
theorem snd_int (i : Int) : Snd G k (.int i) := snd_const (d := .int i) (v := .int i) (fun _ _ _ w => w) (fun _ => rfl) fun {c X x} h => by
  simp only [chkE] at h
  split at h
  · rw [of_decide_eq_true h]; exact ⟨pe_int, rfl⟩
  · cases h
theorem snd_str (i : Str) : Snd G k (.str i) := snd_const (d := .str i) (v := .str i) (fun _ _ _ w => w) (fun _ => rfl) fun {c X x} h => by
  simp only [chkE] at h
  split at h
  · rw [of_decide_eq_true h]; exact ⟨pe_str, rfl⟩
  · cases h
theorem snd_non : Snd G k .non := snd_const (d := .non) (v := .non) (fun _ _ _ w => w) (fun _ => rfl) fun {c X x} h => by
  simp only [chkE] at h
  split at h
  · exact ⟨pe_non, rfl⟩
  · cases h
theorem snd_bl (b : Bool) : Snd G k (.bl b) := snd_const (d := .bl b) (v := .bl b) (fun _ _ _ w => w) (fun _ => rfl) fun {c X x} h => by
  simp only [chkE] at h
  split at h
  · rw [of_decide_eq_true h]; exact ⟨pe_bl, rfl⟩
  · cases h
theorem snd_glob (gk : GOk G) (i : Nat) : Snd G k (.glob i) := Snd.plain fun {c X x} g h => by
  simp only [chkE] at h
  split at h
  · simp only [Bool.and_eq_true, decide_eq_true_eq] at h
    obtain ⟨⟨h1, rfl⟩, h3⟩ := h
    obtain ⟨g1, g2, _⟩ := glo_of g h3
    obtain ⟨u, v, e1, e2, e3⟩ := gk.glb i h1
    exact ⟨PE.imp (pe_glob g1 (by rw [g.mg]; exact e1) e2 g2) fun σ H Q ⟨ρ, M, P, st, w, q⟩ => q.at st.mem w (e3 _), rfl⟩
  · cases h

/-! ### operators -/
theorem op_wp {o : O2} {a b : E} : ∀ σ H Q, tE G (.op o a b) σ H Q → tOp (rD G (opD o)) (tE G a) (tE G b) σ H Q := fun σ H Q ⟨ρ, M, P, st, w, q⟩ =>
  ⟨ρ, M, _, st, w, fun x M1 v H1 hx r1 m1 i1 => ⟨ρ, M1, _, st.step r1 m1, hx, fun y M2 w H2 hy r2 m2 i2 => ⟨x, y, M2, P, m2, i1.mono r2, i2, hy, q.mono (r1.trans r2)⟩⟩⟩
theorem snd_op {o : O2} {a b : E} (ha : Snd G k a) (hb : Snd G k b) : Snd G k (.op o a b) := Snd.plain fun {c X x} g h => by
  simp only [chkE] at h
  split at h
  · simp only [Bool.and_eq_true, decide_eq_true_eq] at h
    obtain ⟨⟨rfl, h1⟩, h2⟩ := h
    exact ⟨PE.imp (pe_op (opR g o) (ha.pe g h1) (hb.pe g h2)) op_wp, rfl⟩
  · cases h
theorem snd_neg {a : E} (ha : Snd G k a) : Snd G k (.neg a) := Snd.plain fun {c X x} g h => by
  simp only [chkE] at h
  split at h
  · refine ⟨PE.imp (pe_un un_neg (ha.pe g h)) fun σ H Q ⟨ρ, M, P, st, w, q⟩ => ⟨ρ, M, _, st, w, fun x M1 v H1 ⟨i, e, hP⟩ r1 m1 i1 => ?_⟩, rfl⟩
    subst e
    exact ⟨i, i1, q _ _ _ _ hP r1 m1 rfl⟩
  · cases h
theorem cmp_wp {o : C2} {a b : E} {σ : L2.St} {ρ : Rho} {P : D → Mem → Prop} (st : StIs G M H σ ρ) (w : wpE (.cmp o a b) ρ M P) (q : ClB G M H P Q) : tOp (rC G (cmpD o)) (tE G a) (tE G b) σ H Q :=
  ⟨ρ, M, _, st, w, fun x M1 v H1 hx r1 m1 i1 => ⟨ρ, M1, _, st.step r1 m1, hx, fun y M2 w H2 hy r2 m2 i2 => ⟨x, y, M2, _, m2, i1.mono r2, i2, hy, fun kk p => q kk M2 H2 p (r1.trans r2) m2⟩⟩⟩
theorem snd_cmp {o : C2} {a b : E} (ha : Snd G k a) (hb : Snd G k b) : Snd G k (.cmp o a b) := by
  refine ⟨fun {c X x} g h => ?_, fun {c X x} g h _ => ?_⟩
  · simp only [chkE] at h
    split at h
    · simp only [Bool.and_eq_true, decide_eq_true_eq] at h
      obtain ⟨⟨⟨rfl, h0⟩, h1⟩, h2⟩ := h
      exact PE.imp (pe_cmpR (cmpR g o) (ha.pe g h1) (hb.pe g h2) (mark_of h0)) fun σ H Q ⟨ρ, M, P, st, w, q⟩ => cmp_wp st w q.b
    · cases h
  · simp only [chkE] at h
    split at h
    · simp only [Bool.and_eq_true, decide_eq_true_eq] at h
      obtain ⟨⟨⟨rfl, h0⟩, h1⟩, h2⟩ := h
      exact ⟨PT.imp (pt_cmpR (cmpR g o) (ha.pe g h1) (hb.pe g h2) (mark_of h0)) fun σ H Q ⟨ρ, M, P, st, w, q⟩ => cmp_wp st w (q_bl q), fun hb => by cases hb⟩
    · cases h
theorem none_V : ∀ {d : D} {v : V}, Is G H d v → decide (v = V.non) = noneD d
  | .non, v, i => by rw [show v = .non from i]; rfl
  | .bl b, v, i => by rw [show v = .bl b from i]; rfl
  | .int b, v, i => by rw [show v = .int b from i]; rfl
  | .str b, v, i => by rw [show v = .str b from i]; rfl
  | .tup b, v, i => by obtain ⟨a, vs, rfl, _⟩ := i; rfl
  | .lst b, v, i => by obtain ⟨a, vs, rfl, _⟩ := i; rfl
  | .ins _ b, v, i => by obtain ⟨a, _, vs, rfl, _⟩ := i; rfl
  | .scr b, v, i => by obtain ⟨a, rfl, _⟩ := i; rfl
  | .adr a, v, i => by rw [show v = .ref a from i]; rfl
theorem snd_isN {a : E} (ha : Snd G k a) : Snd G k (.isN a) := by
  have wp : ∀ {σ : L2.St} {H : Hp} {M : Mem} {ρ : Rho} {P : D → Mem → Prop} {Q : VK}, StIs G M H σ ρ → wpE (.isN a) ρ M P → ClB G M H P Q → tIsN (tE G a) σ H Q := fun st w q =>
    ⟨_, _, _, st, w, fun x M1 v H1 hx r1 m1 i1 => by dsimp only; rw [none_V i1]; exact q _ _ _ hx r1 m1⟩
  refine ⟨fun {c X x} g h => ?_, fun {c X x} g h _ => ?_⟩
  · simp only [chkE] at h
    split at h
    · exact PE.imp (pe_cmp (pc_isN (ha.pe g h)) rfl) fun σ H Q ⟨ρ, M, P, st, w, q⟩ => wp st w q.b
    · cases h
  · simp only [chkE] at h
    split at h
    · exact ⟨PT.imp (pt_cmp (pc_isN (ha.pe g h)) rfl) fun σ H Q ⟨ρ, M, P, st, w, q⟩ => wp st w (q_bl q), fun hb => by cases hb⟩
    · cases h
theorem snd_notN {a : E} (ha : Snd G k a) : Snd G k (.notN a) := by
  have wp : ∀ {σ : L2.St} {H : Hp} {M : Mem} {ρ : Rho} {P : D → Mem → Prop} {Q : VK}, StIs G M H σ ρ → wpE (.notN a) ρ M P → ClB G M H P Q → tNotN (tE G a) σ H Q := fun st w q =>
    ⟨_, _, _, st, w, fun x M1 v H1 hx r1 m1 i1 => by dsimp only; rw [none_V i1]; exact q _ _ _ hx r1 m1⟩
  refine ⟨fun {c X x} g h => ?_, fun {c X x} g h _ => ?_⟩
  · simp only [chkE] at h
    split at h
    · exact PE.imp (pe_cmp (pc_notN (ha.pe g h)) rfl) fun σ H Q ⟨ρ, M, P, st, w, q⟩ => wp st w q.b
    · cases h
  · simp only [chkE] at h
    split at h
    · exact ⟨PT.imp (pt_cmp (pc_notN (ha.pe g h)) rfl) fun σ H Q ⟨ρ, M, P, st, w, q⟩ => wp st w (q_bl q), fun hb => by cases hb⟩
    · cases h
theorem ch2_wp {o o' : C2} {a b d : E} {σ : L2.St} {ρ : Rho} {P : D → Mem → Prop} (st : StIs G M H σ ρ) (w : wpE (.ch2 o o' a b d) ρ M P) (q : ClB G M H P Q) : tChain (rC G (cmpD o)) (rC G (cmpD o')) (tE G a) (tE G b) (tE G d) σ H Q :=
  ⟨ρ, M, _, st, w, fun x M1 v H1 hx r1 m1 i1 => ⟨ρ, M1, _, st.step r1 m1, hx, fun y M2 w H2 hy r2 m2 i2 => ⟨x, y, M2, _, m2, i1.mono r2, i2, hy, fun kk p => ⟨kk, rfl, by
    cases kk with
    | false => exact q _ _ _ p (r1.trans r2) m2
    | true => exact ⟨ρ, M2, _, st.step (r1.trans r2) m2, p, fun z M3 u H3 hz r3 m3 i3 => ⟨y, z, M3, _, m3, i2.mono r3, i3, hz, fun k' p' => q k' M3 H3 p' ((r1.trans r2).trans r3) m3⟩⟩⟩⟩⟩⟩
theorem snd_ch2 {o o' : C2} {a b d : E} (ha : Snd G k a) (hb : Snd G k b) (hd : Snd G k d) : Snd G k (.ch2 o o' a b d) := by
  refine ⟨fun {c X x} g h => ?_, fun {c X x} g h _ => ?_⟩
  · simp only [chkE] at h
    split at h
    · simp only [Bool.and_eq_true, decide_eq_true_eq] at h
      obtain ⟨⟨⟨⟨⟨⟨rfl, rfl⟩, h0⟩, h0'⟩, h1⟩, h2⟩, h3⟩ := h
      exact PE.imp (pe_chain (cmpR g o) (cmpR g o') (ha.pe g h1) (hb.pe g h2) (hd.pe g h3) (mark_of h0')) fun σ H Q ⟨ρ, M, P, st, w, q⟩ => ch2_wp st w q.b
    · cases h
  · simp only [chkE] at h
    split at h
    · simp only [Bool.and_eq_true, decide_eq_true_eq] at h
      obtain ⟨⟨⟨⟨⟨⟨rfl, rfl⟩, h0⟩, h0'⟩, h1⟩, h2⟩, h3⟩ := h
      exact ⟨PT.imp (pt_chain (cmpR g o) (cmpR g o') (ha.pe g h1) (hb.pe g h2) (hd.pe g h3) (mark_of h0')) fun σ H Q ⟨ρ, M, P, st, w, q⟩ => ch2_wp st w (q_bl q), fun hb => by cases hb⟩
    · cases h
theorem ch3_wp {o o' o'' : C2} {a b d e : E} {σ : L2.St} {ρ : Rho} {P : D → Mem → Prop} (st : StIs G M H σ ρ) (w : wpE (.ch3 o o' o'' a b d e) ρ M P) (q : ClB G M H P Q) :
    tCh3 (rC G (cmpD o)) (rC G (cmpD o')) (rC G (cmpD o'')) (tE G a) (tE G b) (tE G d) (tE G e) σ H Q :=
  ⟨ρ, M, _, st, w, fun x M1 v H1 hx r1 m1 i1 => ⟨ρ, M1, _, st.step r1 m1, hx, fun y M2 w H2 hy r2 m2 i2 => ⟨x, y, M2, _, m2, i1.mono r2, i2, hy, fun kk p => ⟨kk, rfl, by
    cases kk with
    | false => exact q _ _ _ p (r1.trans r2) m2
    | true => exact ⟨ρ, M2, _, st.step (r1.trans r2) m2, p, fun z M3 u H3 hz r3 m3 i3 => ⟨y, z, M3, _, m3, i2.mono r3, i3, hz, fun k' p' => ⟨k', rfl, by
      cases k' with
      | false => exact q _ _ _ p' ((r1.trans r2).trans r3) m3
      | true => exact ⟨ρ, M3, _, st.step ((r1.trans r2).trans r3) m3, p', fun t M4 u4 H4 ht r4 m4 i4 => ⟨z, t, M4, _, m4, i3.mono r4, i4, ht, fun k2 p2 => q k2 M4 H4 p2 (((r1.trans r2).trans r3).trans r4) m4⟩⟩⟩⟩⟩⟩⟩⟩⟩
theorem snd_ch3 {o o' o'' : C2} {a b d e : E} (ha : Snd G k a) (hb : Snd G k b) (hd : Snd G k d) (he : Snd G k e) : Snd G k (.ch3 o o' o'' a b d e) := by
  refine ⟨fun {c X x} g h => ?_, fun {c X x} g h _ => ?_⟩
  · simp only [chkE] at h
    split at h
    · simp only [Bool.and_eq_true, decide_eq_true_eq] at h
      obtain ⟨⟨⟨⟨⟨⟨⟨⟨⟨rfl, rfl⟩, rfl⟩, _⟩, _⟩, h0⟩, h1⟩, h2⟩, h3⟩, h4⟩ := h
      exact PE.imp (pe_ch3 (cmpR g o) (cmpR g o') (cmpR g o'') (ha.pe g h1) (hb.pe g h2) (hd.pe g h3) (he.pe g h4) (mark_of h0)) fun σ H Q ⟨ρ, M, P, st, w, q⟩ => ch3_wp st w q.b
    · cases h
  · simp only [chkE] at h
    split at h
    · simp only [Bool.and_eq_true, decide_eq_true_eq] at h
      obtain ⟨⟨⟨⟨⟨⟨⟨⟨⟨rfl, rfl⟩, rfl⟩, _⟩, _⟩, h0⟩, h1⟩, h2⟩, h3⟩, h4⟩ := h
      exact ⟨PT.imp (pt_ch3 (cmpR g o) (cmpR g o') (cmpR g o'') (ha.pe g h1) (hb.pe g h2) (hd.pe g h3) (he.pe g h4) (mark_of h0)) fun σ H Q ⟨ρ, M, P, st, w, q⟩ => ch3_wp st w (q_bl q), fun hb => by cases hb⟩
    · cases h

/-! ### and, or, not, if -/
theorem snd_and {a b : E} (ha : Snd G k a) (hb : Snd G k b) : Snd G k (.and a b) := by
  refine ⟨fun {c X x} g h => ?_, fun {c X x} g h ht => ?_⟩
  · simp only [chkE] at h
    split at h
    · rename_i y z r p
      simp only [Bool.and_eq_true] at h
      have pb : PE X (.BoolOp .And (z :: r) p) (tE G b) := by
        cases r with
        | nil => exact pe_one (hb.pe g h.2)
        | cons _ _ => exact hb.pe g h.2
      refine PE.imp (pe_and (ha.pe g h.1) pb) fun σ H Q ⟨ρ, M, P, st, w, q⟩ => ⟨ρ, M, _, st, w, fun x M1 v H1 ⟨kk, e, hk⟩ r1 m1 i1 => ⟨kk, by subst e; exact i1, ?_⟩⟩
      cases kk with
      | true => exact ⟨ρ, M1, P, st.step r1 m1, hk, q.mono r1⟩
      | false => exact q _ _ _ _ hk r1 m1 rfl
    · cases h
  · simp only [chkE] at h
    simp only [tst, Bool.and_eq_true] at ht
    split at h
    · rename_i y z r p
      simp only [Bool.and_eq_true] at h
      have pb : PW X (.BoolOp .And (z :: r) p) (tT G b) := by
        cases r with
        | nil => exact pw_and1 (hb.pt g h.2 ht.2).1
        | cons _ _ => exact (hb.pt g h.2 ht.2).2 rfl
      have pw : PW X (.BoolOp .And (y :: z :: r) p) (tT G (.and a b)) := by
        refine PW.imp (pw_and (ha.pt g h.1 ht.1).1 pb) fun σ H Q ⟨ρ, M, P, st, w, q⟩ => ⟨ρ, M, _, st, w, fun x M1 v H1 ⟨kk, e, hk⟩ r1 m1 i1 => ⟨kk, by subst e; rfl, ?_⟩⟩
        cases kk with
        | true => exact ⟨ρ, M1, P, st.step r1 m1, hk, fun d M' v H' p r m i => q d M' v H' p (r1.trans r) m i⟩
        | false =>
          obtain ⟨b, e1, e2⟩ := q (.bl false) M1 (.bl false) H1 hk r1 m1 rfl
          cases e1
          exact e2
      exact ⟨pw.pt, fun _ => pw⟩
    · cases h
theorem snd_or {a b : E} (ha : Snd G k a) (hb : Snd G k b) : Snd G k (.or a b) := by
  refine ⟨fun {c X x} g h => ?_, fun {c X x} g h ht => ?_⟩
  · simp only [chkE] at h
    split at h
    · rename_i y z r p
      simp only [Bool.and_eq_true] at h
      have pb : PE X (.BoolOp .Or (z :: r) p) (tE G b) := by
        cases r with
        | nil => exact pe_one (hb.pe g h.2)
        | cons _ _ => exact hb.pe g h.2
      refine PE.imp (pe_or (ha.pe g h.1) pb) fun σ H Q ⟨ρ, M, P, st, w, q⟩ => ⟨ρ, M, _, st, w, fun x M1 v H1 ⟨kk, e, hk⟩ r1 m1 i1 => ⟨kk, by subst e; exact i1, ?_⟩⟩
      cases kk with
      | false => exact ⟨ρ, M1, P, st.step r1 m1, hk, q.mono r1⟩
      | true => exact q _ _ _ _ hk r1 m1 rfl
    · cases h
  · simp only [chkE] at h
    simp only [tst, Bool.and_eq_true] at ht
    split at h
    · rename_i y z r p
      simp only [Bool.and_eq_true] at h
      have pb : PW X (.BoolOp .Or (z :: r) p) (tT G b) := by
        cases r with
        | nil => exact pw_or1 (hb.pt g h.2 ht.2).1
        | cons _ _ => exact (hb.pt g h.2 ht.2).2 rfl
      have pw : PW X (.BoolOp .Or (y :: z :: r) p) (tT G (.or a b)) := by
        refine PW.imp (pw_or (ha.pt g h.1 ht.1).1 pb) fun σ H Q ⟨ρ, M, P, st, w, q⟩ => ⟨ρ, M, _, st, w, fun x M1 v H1 ⟨kk, e, hk⟩ r1 m1 i1 => ⟨kk, by subst e; rfl, ?_⟩⟩
        cases kk with
        | false => exact ⟨ρ, M1, P, st.step r1 m1, hk, fun d M' v H' p r m i => q d M' v H' p (r1.trans r) m i⟩
        | true =>
          obtain ⟨b, e1, e2⟩ := q (.bl true) M1 (.bl true) H1 hk r1 m1 rfl
          cases e1
          exact e2
      exact ⟨pw.pt, fun _ => pw⟩
    · cases h
theorem snd_not {a : E} (ha : Snd G k a) : Snd G k (.not a) := by
  refine ⟨fun {c X x} g h => ?_, fun {c X x} g h ht => ?_⟩
  · simp only [chkE] at h
    split at h
    · refine PE.imp (pe_notT (ha.pe g h)) fun σ H Q ⟨ρ, M, P, st, w, q⟩ => ⟨ρ, M, _, st, w, fun x M1 v H1 ⟨kk, e, hk⟩ r1 m1 i1 => ⟨kk, by rw [g.K]; exact tru_V m1 e i1, q _ _ _ _ hk r1 m1 rfl⟩⟩
    · cases h
  · simp only [chkE] at h
    split at h
    · refine ⟨PT.imp (pt_not (ha.pt g h ht).1) fun σ H Q ⟨ρ, M, P, st, w, q⟩ => ⟨ρ, M, _, st, w, fun x M1 v H1 ⟨kk, e, hk⟩ r1 m1 i1 => ⟨kk, e, ?_⟩⟩, fun hb => by cases hb⟩
      obtain ⟨b, e1, e2⟩ := q (.bl (!kk)) M1 (.bl (!kk)) H1 hk r1 m1 rfl
      cases e1
      exact e2
    · cases h
theorem snd_ife {t a b : E} (ht : Snd G k t) (ha : Snd G k a) (hb : Snd G k b) : Snd G k (.ife t a b) := by
  refine ⟨fun {c X x} g h => ?_, fun {c X x} g h ht => by cases ht⟩
  simp only [chkE] at h
  split at h
  · simp only [Bool.and_eq_true] at h
    obtain ⟨⟨⟨h0, h1⟩, h2⟩, h3⟩ := h
    refine PE.imp (pe_ifExp (ht.pt g h1 h0).1 (ha.pe g h2) (hb.pe g h3)) fun σ H Q ⟨ρ, M, P, st, w, q⟩ => ⟨ρ, M, _, st, w, fun x M1 v H1 ⟨kk, e, hk⟩ r1 m1 i1 => ⟨kk, by subst e; rfl, ?_⟩⟩
    cases kk with
    | true => exact ⟨ρ, M1, P, st.step r1 m1, hk, q.mono r1⟩
    | false => exact ⟨ρ, M1, P, st.step r1 m1, hk, q.mono r1⟩
  · cases h
end
end Sp
end
section
set_option Elab.async false
set_option linter.all false
set_option maxRecDepth 100000
set_option maxHeartbeats 2000000
/-! Part C4: fields, subscripts, displays, calls, comprehensions; the whole. -/
namespace Sp
open PySem PySem.Spec PyProof.Rows L2
section
variable {G : Gc} {M M1 : Mem} {H H1 : Hp} {Q : VK} {X : Cx} {c : Cc} {k : Nat}

/-! ### fields -/
theorem zip_lookup : ∀ (ns : List Str) (vs : List V) (x : Str) (p : Nat), ns.findIdx? (· == x) = some p → (ns.zip vs).lookup x = vs[p]?
  | [], vs, x, p, h => by simp at h
  | n :: ns, [], x, p, h => by simp
  | n :: ns, v :: vs, x, p, h => by
    rw [List.findIdx?_cons] at h
    by_cases e : (n == x) = true
    · rw [if_pos e] at h
      cases h
      have e' : (x == n) = true := by rw [beq_iff_eq] at e ⊢; exact e.symm
      rw [List.zip_cons_cons, List.lookup_cons, e']
      rfl
    · rw [if_neg e] at h
      obtain ⟨q, e1, e2⟩ := Option.map_eq_some_iff.mp h
      have e' : (x == n) = false := by
        rw [beq_eq_false_iff_ne]
        intro z
        exact e (by rw [z]; exact beq_self_eq_true n)
      rw [List.zip_cons_cons, List.lookup_cons, e', ← e2, List.getElem?_cons_succ]
      exact zip_lookup ns vs x q e1
def fposC (c f : Nat) : Bool := match fpos c f with | some p => decide ((cn c).findIdx? (· == fname f) = some p) && decide (f ∈ cf c) | none => true
theorem fpos_all : ∀ c, c < 11 → ∀ f, f < 40 → fposC c f = true := by decide +kernel
theorem cf_small : ∀ c, c < 11 → ∀ f ∈ cf c, f < 40 := by decide +kernel
theorem cf_none : ∀ c, ¬ c < 11 → cf c = [] := fun c h => by
  unfold cf
  split <;> first | (exfalso; omega) | rfl
theorem fpos_lt {c f p : Nat} (h : fpos c f = some p) : c < 11 ∧ f ∈ cf c ∧ (cn c).findIdx? (· == fname f) = some p := by
  have hc : c < 11 := by
    by_cases q : c < 11
    · exact q
    · unfold fpos at h
      rw [cf_none c q] at h
      cases h
  have hm : f ∈ cf c := by
    unfold fpos at h
    obtain ⟨hp, e, _⟩ := List.findIdx?_eq_some_iff_getElem.mp h
    have e' : (cf c)[p] = f := by simpa using e
    rw [← e']
    exact List.getElem_mem hp
  have := fpos_all c hc f (cf_small c hc f hm)
  unfold fposC at this
  rw [h] at this
  simp only [Bool.and_eq_true, decide_eq_true_eq] at this
  exact ⟨hc, hm, this.1⟩
theorem snd_attr (gk : GOk G) {a : E} {f : Nat} (ha : Snd G k a) : Snd G k (.attr a f) := Snd.plain fun {c X x} g h => by
  simp only [chkE] at h
  split at h
  · simp only [Bool.and_eq_true, decide_eq_true_eq] at h
    obtain ⟨rfl, h1⟩ := h
    refine ⟨PE.imp (pe_fld (ha.pe g h1) (ab_of (form_nc h1))) fun σ H Q ⟨ρ, M, P, st, w, q⟩ => ⟨ρ, M, _, st, w, fun x M1 v H1 ⟨cc, ds, e, p, ep, d, ed, hP⟩ r1 m1 i1 => ?_⟩, rfl⟩
    subst e
    obtain ⟨b, dx, vs, e1, e2, e3⟩ := i1
    obtain ⟨hc, hm, hi⟩ := fpos_lt ep
    obtain ⟨u, e4, e5⟩ := e3.get ed
    rw [g.K]
    exact ⟨b, G.ca cc, dx, _, u, e1, cut_le _ _ e2, gk.cls cc hc, gk.noa cc hc f hm, by rw [zip_lookup _ _ _ _ hi]; exact e4, q _ _ _ _ hP r1 m1 e5⟩
  · cases h
/-! ### subscripts -/
theorem snd_idx {a b : E} (ha : Snd G k a) (hb : Snd G k b) : Snd G k (.idx a b) := Snd.plain fun {c X x} g h => by
  simp only [chkE] at h
  split at h
  · simp only [Bool.and_eq_true] at h
    obtain ⟨h1, h2⟩ := h
    refine ⟨PE.imp (pe_ix (ixR g) (ha.pe g h1) (hb.pe g h2) (ix_plain (form_sl h2))) fun σ H Q ⟨ρ, M, P, st, w, q⟩ => ⟨ρ, M, _, st, w, fun x M1 v H1 hx r1 m1 i1 => ⟨ρ, M1, _, st.step r1 m1, hx, fun y M2 w H2 ⟨n, e, hy⟩ r2 m2 i2 => ?_⟩⟩, rfl⟩
    subst e
    exact ⟨x, M2, P, m2, i1.mono r2, ⟨n, i2, hy⟩, q.mono (r1.trans r2)⟩
  · cases h
theorem snd_slLo {a b : E} (ha : Snd G k a) (hb : Snd G k b) : Snd G k (.slLo a b) := Snd.plain fun {c X x} g h => by
  simp only [chkE] at h
  split at h
  · simp only [Bool.and_eq_true] at h
    obtain ⟨h1, h2⟩ := h
    refine ⟨PE.imp (pe_slice (slR g) (ha.pe g h1) (po_some (hb.pe g h2)) po_none) fun σ H Q ⟨ρ, M, P, st, w, q⟩ => ⟨ρ, M, _, st, w, fun x M1 v H1 hx r1 m1 i1 => ⟨ρ, M1, _, st.step r1 m1, hx, fun y M2 w H2 ⟨n, e, hy⟩ r2 m2 i2 => ?_⟩⟩, rfl⟩
    subst e
    exact ⟨n, i2, x, M2, P, m2, i1.mono r2, hy, q.mono (r1.trans r2)⟩
  · cases h
theorem snd_slHi {a b : E} (ha : Snd G k a) (hb : Snd G k b) : Snd G k (.slHi a b) := Snd.plain fun {c X x} g h => by
  simp only [chkE] at h
  split at h
  · simp only [Bool.and_eq_true] at h
    obtain ⟨h1, h2⟩ := h
    refine ⟨PE.imp (pe_slice (slR g) (ha.pe g h1) po_none (po_some (hb.pe g h2))) fun σ H Q ⟨ρ, M, P, st, w, q⟩ => ⟨ρ, M, _, st, w, fun x M1 v H1 hx r1 m1 i1 => ⟨ρ, M1, _, st.step r1 m1, hx, fun y M2 w H2 ⟨n, e, hy⟩ r2 m2 i2 => ?_⟩⟩, rfl⟩
    subst e
    exact ⟨n, i2, x, M2, P, m2, i1.mono r2, hy, q.mono (r1.trans r2)⟩
  · cases h
theorem snd_slB {a b d : E} (ha : Snd G k a) (hb : Snd G k b) (hd : Snd G k d) : Snd G k (.slB a b d) := Snd.plain fun {c X x} g h => by
  simp only [chkE] at h
  split at h
  · simp only [Bool.and_eq_true] at h
    obtain ⟨⟨h1, h2⟩, h3⟩ := h
    refine ⟨PE.imp (pe_slice (slR g) (ha.pe g h1) (po_some (hb.pe g h2)) (po_some (hd.pe g h3))) fun σ H Q ⟨ρ, M, P, st, w, q⟩ => ⟨ρ, M, _, st, w, fun x M1 v H1 hx r1 m1 i1 => ⟨ρ, M1, _, st.step r1 m1, hx, fun y M2 w H2 ⟨n, e, hy⟩ r2 m2 i2 => ?_⟩⟩, rfl⟩
    subst e
    refine ⟨n, i2, ρ, M2, _, (st.step r1 m1).step r2 m2, hy, fun z M3 u H3 ⟨l, e, hz⟩ r3 m3 i3 => ?_⟩
    subst e
    exact ⟨l, i3, x, M3, P, m3, (i1.mono r2).mono r3, hz, q.mono ((r1.trans r2).trans r3)⟩
  · cases h
theorem snd_rev {a : E} (ha : Snd G k a) : Snd G k (.rev a) := Snd.plain fun {c X x} g h => by
  simp only [chkE] at h
  split at h
  · refine ⟨PE.imp (pe_revL (ha.pe g h)) fun σ H Q ⟨ρ, M, P, st, w, q⟩ => ⟨ρ, M, _, st, w, fun x M1 v H1 ⟨xs, e, hP⟩ r1 m1 i1 => ?_⟩, rfl⟩
    obtain ⟨b, vs, e1, e2, e3⟩ := lst_at m1 i1 e
    exact ⟨b, vs, e1, SqL.of e2, fin_lst m1 (q.mono r1) hP e3.reverse⟩
  · cases h

/-! ### displays -/
theorem snd_lst {es : Es} (ha : SndA G k es) : Snd G k (.lst es) := Snd.plain fun {c X x} g h => by
  simp only [chkE] at h
  split at h
  · simp only [Bool.and_eq_true, decide_eq_true_eq] at h
    obtain ⟨h1, h2⟩ := h
    exact ⟨PE.imp (pe_lst (ha.pa g h1).1) fun σ H Q ⟨ρ, M, P, st, w, q⟩ => ⟨ρ, M, _, st, w, fun ds M1 vs H1 hx hl r1 m1 i1 => ⟨Evl.sz_of (by omega), fin_lst m1 (q.mono r1) hx i1⟩⟩, rfl⟩
  · cases h
theorem snd_lstM {es : Es} (ha : SndA G k es) : Snd G k (.lstM es) := Snd.plain fun {c X x} g h => by
  simp only [chkE] at h
  split at h
  · simp only [Bool.and_eq_true, decide_eq_true_eq] at h
    obtain ⟨h1, h2⟩ := h
    exact ⟨PE.imp (pe_lst (ha.pa g h1).1) fun σ H Q ⟨ρ, M, P, st, w, q⟩ => ⟨ρ, M, _, st, w, fun ds M1 vs H1 hx hl r1 m1 i1 => ⟨Evl.sz_of (by omega), fin_new m1 (q.mono r1) hx i1⟩⟩, rfl⟩
  · cases h
theorem snd_tup {es : Es} (ha : SndA G k es) : Snd G k (.tup es) := Snd.plain fun {c X x} g h => by
  simp only [chkE] at h
  split at h
  · simp only [Bool.and_eq_true, decide_eq_true_eq] at h
    obtain ⟨h1, h2⟩ := h
    exact ⟨PE.imp (pe_tup (ha.pa g h1).1) fun σ H Q ⟨ρ, M, P, st, w, q⟩ => ⟨ρ, M, _, st, w, fun ds M1 vs H1 hx hl r1 m1 i1 => ⟨Evl.sz_of (by omega), fin_tup m1 (q.mono r1) hx i1⟩⟩, rfl⟩
  · cases h
theorem rep_flat {v : V} : ∀ n : Nat, (List.replicate n [v]).flatten = List.replicate n v
  | 0 => rfl
  | n + 1 => by rw [List.replicate_succ, List.flatten_cons, rep_flat n, List.replicate_succ]; rfl
theorem snd_repM {a b : E} (ha : Snd G k a) (hb : Snd G k b) : Snd G k (.repM a b) := Snd.plain fun {c X x} g h => by
  simp only [chkE] at h
  split at h
  · simp only [Bool.and_eq_true] at h
    obtain ⟨h1, h2⟩ := h
    refine ⟨PE.imp (pe_op op_rep (pe_lst (pa_cons (ha.pe g h1) pa_nil (star_cons (form_ns h1)))) (hb.pe g h2)) fun σ H Q ⟨ρ, M, P, st, w, q⟩ => ⟨ρ, M, _, st, w, fun d M1 v H1 hx r1 m1 i1 => ?_⟩, rfl⟩
    refine ⟨by show 1 ≤ sizeLine; decide, fun p hp => ?_⟩
    have ex : Ex H1 (upd H1 p (.lst [v])) := Evl.Ex.new hp
    refine ⟨ρ, M1, _, (st.step r1 m1).step (Rch.of ex) (m1.mono ex), hx, fun y M2 w H2 ⟨n, e, hn, hy⟩ r2 m2 i2 => ?_⟩
    subst e
    have hp2 : H2 p = some (.lst [v]) := cut_le _ _ (r2 p _ (cut_of (m1.free hp) upd_same))
    refine ⟨p, (n : Int), [v], rfl, i2, hp2, by omega, by omega, ?_, ?_⟩
    · show ([v] : List V).length * (n : Int).toNat ≤ sizeLine
      rw [List.length_singleton, Int.toNat_natCast, Nat.one_mul]
      exact Evl.sz_of hn
    · rw [Int.toNat_natCast, rep_flat]
      exact fin_new m2 (q.mono ((r1.trans (Rch.of ex)).trans r2)) hy (IsL.rep ((i1.mono (Rch.of ex)).mono r2) n)
  · cases h

/-! ### arguments -/
theorem snd_nil : SndA G k .nil := by
  refine ⟨fun {c X xs} g h => ?_, fun {c X ns ks} g h => ?_⟩
  · cases xs with
    | nil => exact ⟨PA.imp pa_nil fun σ H Q ⟨ρ, M, P, st, w, q⟩ => q [] M [] H w rfl Rch.refl st.mem rfl, rfl⟩
    | cons _ _ => cases h
  · cases ns with
    | nil => cases ks with
      | nil => exact ⟨PK.imp pk_nil fun σ H Q ⟨ρ, M, P, st, w, q⟩ => q [] M [] H w rfl Rch.refl st.mem rfl, rfl⟩
      | cons _ _ => cases h
    | cons _ _ => cases ks <;> cases h
theorem cons_wp {e : E} {r : Es} {n : Nat} : ∀ σ H Q, tEs G (.cons e r) (n + 1) σ H Q → tCons (tE G e) (tEs G r n) σ H Q := fun σ H Q ⟨ρ, M, P, st, w, q⟩ =>
  ⟨ρ, M, _, st, w, fun d M1 v H1 hx r1 m1 i1 => ⟨ρ, M1, _, st.step r1 m1, hx, fun ds M2 vs H2 hy hl r2 m2 i2 => q (d :: ds) M2 (v :: vs) H2 hy (by rw [List.length_cons, hl]) (r1.trans r2) m2 (IsL.cons (i1.mono r2) i2)⟩⟩
theorem snd_cons {e : E} {r : Es} (he : Snd G k e) (hr : SndA G k r) : SndA G k (.cons e r) := by
  refine ⟨fun {c X xs} g h => ?_, fun {c X ns ks} g h => ?_⟩
  · cases xs with
    | nil => cases h
    | cons x xs =>
      simp only [chkEs, Bool.and_eq_true] at h
      obtain ⟨h1, h2⟩ := h
      obtain ⟨p1, p2⟩ := hr.pa g h2
      exact ⟨PA.imp (pa_cons (he.pe g h1) p1 (star_cons (form_ns h1))) cons_wp, by rw [List.all_cons, form_ns h1, p2]; rfl⟩
  · cases ns with
    | nil => cases ks <;> cases h
    | cons n ns => cases ks with
      | nil => cases h
      | cons kw ks =>
        obtain ⟨m, x, p⟩ := kw
        cases m with
        | none => cases h
        | some m =>
          simp only [chkKs, Bool.and_eq_true, decide_eq_true_eq] at h
          obtain ⟨⟨rfl, h1⟩, h2⟩ := h
          obtain ⟨p1, p2⟩ := hr.pk g h2
          exact ⟨PK.imp (pk_cons (he.pe g h1) p1) cons_wp, by rw [List.map_cons, List.map_cons, p2]⟩

/-! ### calls -/
theorem snd_call {f : Ent} {es ks : Es} (hf : CallOk G k f) (he : SndA G k es) (hk : SndA G k ks) : Snd G k (.call f es ks) := Snd.plain fun {c X x} g h => by
  simp only [chkE] at h
  split at h
  · simp only [Bool.and_eq_true, decide_eq_true_eq] at h
    obtain ⟨⟨⟨⟨rfl, h0⟩, h1⟩, h2⟩, h3⟩ := h
    obtain ⟨p1, p2⟩ := he.pa g h2
    obtain ⟨g1, g2, _⟩ := glo_of g h1
    rw [h0] at p1
    refine ⟨?_, rfl⟩
    by_cases e : f.kws = []
    · rw [e] at h3
      cases ks with
      | cons _ _ => rename_i kws _ _ _ _ _; cases kws <;> cases h3
      | nil =>
        rename_i kws _ _
        cases kws with
        | cons _ _ => cases h3
        | nil => exact PE.imp ((hf X c g _ _ _ _ _ g1 p1 mono_es p2 g2).1 e) fun σ H Q ⟨ρ, M, P, st, w, q⟩ => ⟨ρ, M, _, st, w, fun ds M1 vs H1 hx hl r1 m1 i1 => ⟨hl, ds ++ [], M1, P, m1, by rw [List.append_nil]; exact i1, hx, q.mono r1⟩⟩
    · obtain ⟨p3, p4⟩ := hk.pk g h3
      have hkl : ∀ {kws : List Keyword}, kws.map (·.arg) = f.kws.map some → kws.length = f.kws.length := fun {kws} z => by
        have := congrArg List.length z
        simpa using this
      rw [hkl p4] at p3
      refine PE.imp ((hf X c g _ _ _ _ _ g1 p1 mono_es p2 g2).2 e _ _ p3 mono_es p4) fun σ H Q ⟨ρ, M, P, st, w, q⟩ => ⟨ρ, M, _, st, w, fun ds M1 vs H1 hx hl r1 m1 i1 => ⟨ρ, M1, _, st.step r1 m1, hx, fun zs M2 ws H2 hy hl2 r2 m2 i2 => ?_⟩⟩
      exact ⟨hl, hl2, ds ++ zs, M2, P, m2, (i1.mono r2).append i2, hy, q.mono (r1.trans r2)⟩
  · cases h
theorem snd_meth {cl : Nat} {f : Ent} {o : E} {es : Es} (hf : MethOk G k cl f) (ho : Snd G k o) (he : SndA G k es) : Snd G k (.meth cl f o es) := Snd.plain fun {c X x} g h => by
  simp only [chkE] at h
  split at h
  · simp only [Bool.and_eq_true, decide_eq_true_eq] at h
    obtain ⟨⟨⟨⟨rfl, h3⟩, h4⟩, h1⟩, h2⟩ := h
    obtain ⟨p1, p2⟩ := he.pa g h2
    refine ⟨PE.imp (hf X c g _ _ _ _ _ _ _ _ (ho.pe g h1) mono_e p1 mono_es p2 h3 h4) fun σ H Q ⟨ρ, M, P, st, w, q⟩ => ⟨ρ, M, _, st, w, fun d M1 v H1 ⟨⟨ds, e⟩, hx⟩ r1 m1 i1 => ⟨?_, ρ, M1, _, st.step r1 m1, hx, fun zs M2 ws H2 hy hl2 r2 m2 i2 => ?_⟩⟩, rfl⟩
    · subst e
      obtain ⟨a, dx, vs, e1, e2, _⟩ := i1
      exact ⟨a, dx, vs, e1, cut_le _ _ e2⟩
    · exact ⟨d :: zs, M2, P, m2, IsL.cons (i1.mono r2) i2, hy, q.mono (r1.trans r2)⟩
  · cases h
theorem bi_none (gk : GOk G) (b : Bi) (h : b ≠ .isqrt) : G.mg b.name = none := by
  refine gk.blt _ ?_
  cases b <;> first | (exact absurd rfl h) | (simp [Bi.name])
theorem snd_bi (gk : GOk G) {b : Bi} {es : Es} (he : SndA G k es) : Snd G k (.bi b es) := Snd.plain fun {c X x} g h => by
  simp only [chkE] at h
  split at h
  · simp only [Bool.and_eq_true, decide_eq_true_eq] at h
    obtain ⟨⟨rfl, h1⟩, h2⟩ := h
    obtain ⟨p1, p2⟩ := he.pa g h2
    obtain ⟨g1, g2, g3⟩ := glo_of g h1
    rw [List.all_cons, Bool.and_eq_true] at p2
    have wp : ∀ {n : Nat} (σ : L2.St) (H : Hp) (Q : VK), tE G (.bi b es) σ H Q → tCB (rB G b) (tEs G es n) σ H Q := fun σ H Q ⟨ρ, M, P, st, w, q⟩ => ⟨ρ, M, _, st, w, fun ds M1 vs H1 hx hl r1 m1 i1 => ⟨ds, M1, P, m1, i1, hx, q.mono r1⟩⟩
    have r := biR g b
    have hm : b ≠ .isqrt → X.mg b.name = none := fun z => by rw [g.mg]; exact bi_none gk b z
    cases b with
    | int => exact ⟨PE.imp (pe_callTy r g1 (hm (by intro z; cases z)) (by decide +kernel) p1 g3 g2 (star_cons p2.1) (star_plain p2.2)) wp, rfl⟩
    | tuple => exact ⟨PE.imp (pe_callTy r g1 (hm (by intro z; cases z)) (by decide +kernel) p1 g3 g2 (star_cons p2.1) (star_plain p2.2)) wp, rfl⟩
    | isqrt => exact ⟨PE.imp (pe_callBfun r g1 (by rw [g.mg]; exact gk.isq) p1 g2 (star_cons p2.1) (star_plain p2.2)) wp, rfl⟩
    | len => exact ⟨PE.imp (pe_callB r g1 (hm (by intro z; cases z)) (by decide +kernel) p1 g3 g2 (star_cons p2.1) (star_plain p2.2)) wp, rfl⟩
    | max => exact ⟨PE.imp (pe_callB r g1 (hm (by intro z; cases z)) (by decide +kernel) p1 g3 g2 (star_cons p2.1) (star_plain p2.2)) wp, rfl⟩
    | min => exact ⟨PE.imp (pe_callB r g1 (hm (by intro z; cases z)) (by decide +kernel) p1 g3 g2 (star_cons p2.1) (star_plain p2.2)) wp, rfl⟩
    | sum => exact ⟨PE.imp (pe_callB r g1 (hm (by intro z; cases z)) (by decide +kernel) p1 g3 g2 (star_cons p2.1) (star_plain p2.2)) wp, rfl⟩
    | all => exact ⟨PE.imp (pe_callB r g1 (hm (by intro z; cases z)) (by decide +kernel) p1 g3 g2 (star_cons p2.1) (star_plain p2.2)) wp, rfl⟩
    | any => exact ⟨PE.imp (pe_callB r g1 (hm (by intro z; cases z)) (by decide +kernel) p1 g3 g2 (star_cons p2.1) (star_plain p2.2)) wp, rfl⟩
    | abs => exact ⟨PE.imp (pe_callB r g1 (hm (by intro z; cases z)) (by decide +kernel) p1 g3 g2 (star_cons p2.1) (star_plain p2.2)) wp, rfl⟩
    | sorted => exact ⟨PE.imp (pe_callB r g1 (hm (by intro z; cases z)) (by decide +kernel) p1 g3 g2 (star_cons p2.1) (star_plain p2.2)) wp, rfl⟩
  · cases h
theorem snd_isP (gk : GOk G) {a : E} (ha : Snd G k a) : Snd G k (.isP a) := Snd.plain fun {c X x} g h => by
  simp only [chkE] at h
  split at h
  · simp only [Bool.and_eq_true, decide_eq_true_eq] at h
    obtain ⟨⟨⟨⟨rfl, rfl⟩, h1⟩, h2⟩, h3⟩ := h
    obtain ⟨g1, g2, g3⟩ := glo_of g h1
    obtain ⟨j1, j2, j3⟩ := glo_of g h2
    have hm : X.mg ("isinstance" : Str) = none := by rw [g.mg]; exact gk.blt _ (by simp)
    have hp : ∀ p : Pos, PE X (.Name "Paper" p) (tC (.ref (G.ca 6))) := fun p => pe_glob (u := .ref (G.ca 6)) j1 (by rw [g.mg]; exact gk.pmg) rfl j2
    refine ⟨PE.imp (pe_callB call_isi g1 hm (by decide +kernel) (pa_cons (ha.pe g h3) (pa_cons (hp _) pa_nil) (star_cons (form_ns h3))) g3 g2 (star_cons (form_ns h3)) rfl) fun σ H Q ⟨ρ, M, P, st, w, q⟩ => ⟨ρ, M, _, st, w, fun d M1 v H1 ⟨kk, e, hP⟩ r1 m1 i1 => ?_⟩, rfl⟩
    have q' : Q (.bl kk) H1 := q _ _ _ _ hP r1 m1 rfl
    cases d with
    | non =>
      cases e
      exact ⟨v, .ref (G.ca 6), .type "NoneType", .ref (G.ca 6), false, rfl, .own _, by rw [show v = .non from i1]; exact .base .non, by rw [g.K]; exact gk.pkN, q'⟩
    | tup xs =>
      cases e
      obtain ⟨a, vs, e1, e2, _⟩ := tup_at i1
      refine ⟨v, .ref (G.ca 6), .type "tuple", .ref (G.ca 6), false, rfl, .own _, ?_, by rw [g.K]; exact gk.pkT, q'⟩
      rw [e1, g.K]
      rcases e2 with (e2 | ⟨o, e2⟩) | ⟨o, its, n, e2, e3, _⟩
      · exact .base (.tup e2)
      · exact .fTuple e2
      · exact .kTuple e2 e3
    | ins cc ds =>
      obtain ⟨a, dx, vs, e1, e2, _⟩ := i1
      simp only [paperD] at e
      split at e
      · rename_i h6
        subst h6
        cases e
        refine ⟨v, .ref (G.ca 6), .ref (G.ca 6), .ref (G.ca 6), true, rfl, .own _, ?_, by rw [g.K]; exact gk.pk, q'⟩
        rw [e1, g.K]
        exact .base (gk.pcl a dx _ H1 (cut_le _ _ e2))
      · cases e
    | _ => cases e
  · cases h
theorem snd_inP (gk : GOk G) {a : E} (ha : Snd G k a) : Snd G k (.inP a) := by
  obtain ⟨d, es, n, e1, e2, e3⟩ := gk.pts
  have wp : ∀ {X : Cx} {c : Cc} {σ : L2.St} {H : Hp} {M : Mem} {ρ : Rho} {P : D → Mem → Prop} {Q : VK}, Good G c k X → StIs G M H σ ρ → wpE (.inP a) ρ M P → ClB G M H P Q →
      tOp (fun x y H Q => ∃ (z : Str) (r : Option Value), x = .str z ∧ y = .ref d ∧ PySem.W.nsIn X.K d z = some r ∧ Q (.bl r.isSome) H) (tE G a) (tC (.ref d)) σ H Q := fun {X c σ H M ρ P Q} g st w q =>
    ⟨_, _, _, st, w, fun x M1 v H1 ⟨z, ez, hz, hP⟩ r1 m1 i1 => by
      subst ez
      obtain ⟨r, f1, f2⟩ := e3 z hz
      exact ⟨z, r, i1, rfl, by rw [g.K]; exact f1, by rw [f2]; exact q _ _ _ hP r1 m1⟩⟩
  refine ⟨fun {c X x} g h => ?_, fun {c X x} g h _ => ?_⟩
  · simp only [chkE] at h
    split at h
    · simp only [Bool.and_eq_true, decide_eq_true_eq] at h
      obtain ⟨⟨rfl, h1⟩, h2⟩ := h
      obtain ⟨g1, g2, _⟩ := glo_of g h1
      have K2 : KDict X.K X.w d es n := by rw [g.K, g.w]; exact e2
      exact PE.imp (pe_cmpR (op_in_kd K2) (ha.pe g h2) (pe_glob (u := .ref d) (v := .ref d) g1 (by rw [g.mg]; exact e1) rfl g2) rfl) fun σ H Q ⟨ρ, M, P, st, w, q⟩ => wp g st w q.b
    · cases h
  · simp only [chkE] at h
    split at h
    · simp only [Bool.and_eq_true, decide_eq_true_eq] at h
      obtain ⟨⟨rfl, h1⟩, h2⟩ := h
      obtain ⟨g1, g2, _⟩ := glo_of g h1
      have K2 : KDict X.K X.w d es n := by rw [g.K, g.w]; exact e2
      exact ⟨PT.imp (pt_cmpR (op_in_kd K2) (ha.pe g h2) (pe_glob (u := .ref d) (v := .ref d) g1 (by rw [g.mg]; exact e1) rfl g2) rfl) fun σ H Q ⟨ρ, M, P, st, w, q⟩ => wp g st w (q_bl q), fun hb => by cases hb⟩
    · cases h
theorem rch_put {a : Addr} {d e : D} {o : HO} (h : M a = some e) : Rch M H (M.set a d) (upd H a o) := by
  unfold Rch
  rw [cut_set.trans (cut_set2 h)]
  exact Evl.Ex.refl _
theorem snd_pop {l : E} (hl : Snd G k l) : Snd G k (.pop l) := Snd.plain fun {c X x} g h => by
  simp only [chkE] at h
  split at h
  · simp only [Bool.and_eq_true, decide_eq_true_eq] at h
    obtain ⟨⟨rfl, h0⟩, h1⟩ := h
    refine ⟨PE.imp (pe_bm0 PySem.F.plainAttrs_list PySem.F.slot_list_pop PySem.F.type_list_pop mt_pop (hl.pe g h1) (ab_of (form_nc h1)) h0) fun σ H Q ⟨ρ, M, P, st, w, q⟩ => ⟨ρ, M, _, st, w, fun x M1 v H1 ⟨a, xs, d, e, em, ed, hP⟩ r1 m1 i1 => ?_⟩, rfl⟩
    subst e
    have i1 : v = .ref a := i1
    subst i1
    obtain ⟨vs, h2, l2⟩ := m1.lst em
    rw [l2.length] at ed
    obtain ⟨u, e4, i4⟩ := l2.get ed
    have ec : cut (M1.set a (.lst xs.dropLast)) (upd H1 a (.lst vs.dropLast)) = cut M1 H1 := cut_set.trans (cut_set2 em)
    exact ⟨.inl ⟨rfl, vs, SqL.of h2⟩, a, vs, u, rfl, rfl, h2, e4, q _ _ _ _ hP (r1.trans (rch_put em)) (m1.put em l2.dropLast) (by rw [ec]; exact i4)⟩
  · cases h
theorem snd_frz {a : E} (ha : Snd G k a) : Snd G k (.frz a) := by
  refine ⟨fun {c X x} g h => ?_, fun {c X x} g h ht => by cases ht⟩
  simp only [chkE] at h
  refine PE.imp (ha.pe g h) fun σ H Q ⟨ρ, M, P, st, w, q⟩ => ⟨ρ, M, _, st, w, fun x M1 v H1 ⟨b, d, e, em, hP⟩ r1 m1 i1 => ?_⟩
  subst e
  have i1 : v = .ref b := i1
  subst i1
  refine q _ _ _ _ hP (r1.trans cut_del) (m1.del b) ?_
  rcases m1 b d em with ⟨xs, vs, rfl, _⟩ | ⟨cc, ds, dx, vs, rfl, _⟩
  · exact m1.freeze em
  · exact m1.freezeI em

/-! ### what is walked -/
theorem walked_at {d : D} {v : V} {xs : List D} (i : Is G (cut M H) d v) (e : walked d = some xs) :
    (∃ a vs, d = .lst xs ∧ v = .ref a ∧ cut M H a = some (.lst vs) ∧ IsL G (cut M H) xs vs) ∨ (∃ a vs, d = .tup xs ∧ v = .ref a ∧ SqT G.K (cut M H) a vs ∧ IsL G (cut M H) xs vs) ∨ (∃ z, d = .str z ∧ v = .str z ∧ xs = signs z) := by
  cases d with
  | lst ys => cases e; obtain ⟨a, vs, h1, h2, h3⟩ := i; exact .inl ⟨a, vs, rfl, h1, h2, h3⟩
  | tup ys => cases e; obtain ⟨a, vs, h1, h2, h3⟩ := i; exact .inr (.inl ⟨a, vs, rfl, h1, h2, h3⟩)
  | str z => cases e; exact .inr (.inr ⟨z, rfl, i, rfl⟩)
  | _ => cases e
theorem snd_seq {e : E} (he : Snd G k e) : SndI G k (.seq e) := fun {c X x tg} g h => by
  simp only [chkIt] at h
  refine ⟨PI.imp (pi_any (he.pe g h)) fun σ H R ⟨ρ, M, P, st, w, q⟩ => ⟨ρ, M, _, st, w, fun d M1 v H1 ⟨xs, e, hP⟩ r1 m1 i1 => ?_⟩, form_se h⟩
  rw [g.K]
  rcases walked_at i1 e with ⟨a, vs, e0, e1, e2, e3⟩ | ⟨a, vs, e0, e1, e2, e3⟩ | ⟨z, e0, e1, e2⟩
  · exact .inl ⟨a, e1, ⟨vs, SqL.of (cut_le _ _ e2)⟩, q _ _ _ _ hP r1 m1 (wf_list e2 e3).wd fun _ => wf_list e2 e3⟩
  · exact .inr (.inl ⟨a, e1, ⟨vs, Evl.ex_t cut_le e2⟩, q _ _ _ _ hP r1 m1 (wf_tup e2 e3).wd fun _ => wf_tup e2 e3⟩)
  · subst e2
    exact .inr (.inr ⟨z, e1, q _ _ _ _ hP r1 m1 wf_str.wd fun _ => wf_str⟩)
theorem snd_seqM {e : E} (he : Snd G k e) : SndI G k (.seqM e) := fun {c X x tg} g h => by
  simp only [chkIt] at h
  refine ⟨PI.imp (pi_any (he.pe g h)) fun σ H R ⟨ρ, M, P, st, w, q⟩ => ⟨ρ, M, _, st, w, fun d M1 v H1 ⟨a, xs, e, em, hP⟩ r1 m1 i1 => ?_⟩, form_se h⟩
  rw [g.K]
  subst e
  obtain ⟨vs, h2, l2⟩ := m1.lst em
  exact .inl ⟨a, i1, ⟨vs, SqL.of h2⟩, q _ _ _ _ hP r1 m1 (wd_mem em) fun z => by cases z⟩
theorem snd_rng1 (gk : GOk G) {e : E} (he : Snd G k e) : SndI G k (.rng1 e) := fun {c X x tg} g h => by
  simp only [chkIt] at h
  split at h
  · simp only [Bool.and_eq_true, decide_eq_true_eq] at h
    obtain ⟨⟨rfl, h1⟩, h2⟩ := h
    have hm : X.mg ("range" : Str) = none := by rw [g.mg]; exact gk.blt _ (by simp)
    refine ⟨PI.imp (pi_range1 (glo_of g h1).1 hm (pa_cons (he.pe g h2) pa_nil (star_cons (form_ns h2))) (star_cons (form_ns h2))) fun σ H R ⟨ρ, M, P, st, w, q⟩ => ⟨ρ, M, _, st, w, fun d M1 v H1 ⟨n, e, hn, hP⟩ r1 m1 i1 => ?_⟩, rfl⟩
    subst e
    have i1 : v = .int (n : Int) := i1
    subst i1
    refine ⟨(n : Int), rfl, by omega, by omega, ?_⟩
    rw [Int.toNat_natCast]
    have e0 : ((List.range n).map fun (i : Nat) => D.int (i : Int)) = (List.range n).map fun (i : Nat) => D.int (0 + (i : Int)) := by
      refine List.map_congr_left fun i _ => ?_
      rw [Int.zero_add]
    rw [e0] at hP
    exact q _ _ _ _ hP r1 m1 wf_rng.wd fun _ => wf_rng
  · cases h
theorem snd_rng2 (gk : GOk G) {a b : E} (ha : Snd G k a) (hb : Snd G k b) : SndI G k (.rng2 a b) := fun {c X x tg} g h => by
  simp only [chkIt] at h
  split at h
  · simp only [Bool.and_eq_true, decide_eq_true_eq] at h
    obtain ⟨⟨⟨rfl, h1⟩, h2⟩, h3⟩ := h
    have hm : X.mg ("range" : Str) = none := by rw [g.mg]; exact gk.blt _ (by simp)
    have hs : ∀ {env : PySem.Env}, starEach [_, _] env = [(false, eval _ env), (false, eval _ env)] := fun {env} => by rw [star_cons (form_ns h2), star_cons (form_ns h3)]; rfl
    refine ⟨PI.imp (pi_range2 (glo_of g h1).1 hm (pa_cons (ha.pe g h2) (pa_cons (hb.pe g h3) pa_nil (star_cons (form_ns h3))) (star_cons (form_ns h2))) hs (star_cons (form_ns h3))) fun σ H R ⟨ρ, M, P, st, w, q⟩ => ⟨ρ, M, _, st, w, fun d M1 v H1 hx r1 m1 i1 => ⟨ρ, M1, _, st.step r1 m1, hx, fun d2 M2 u H2 ⟨i, j, e, e2, hn, hP⟩ r2 m2 i2 => ?_⟩⟩, rfl⟩
    subst e e2
    have i1 : v = .int i := i1
    have i2 : u = .int j := i2
    subst i1 i2
    exact ⟨i, j, rfl, hn, q _ _ _ _ hP (r1.trans r2) m2 wf_rng.wd fun _ => wf_rng⟩
  · cases h
theorem snd_zip (gk : GOk G) {a b : E} (ha : Snd G k a) (hb : Snd G k b) : SndI G k (.zip a b) := fun {c X x tg} g h => by
  simp only [chkIt] at h
  split at h
  · simp only [Bool.and_eq_true, decide_eq_true_eq] at h
    obtain ⟨⟨⟨rfl, h1⟩, h2⟩, h3⟩ := h
    have hm : X.mg ("zip" : Str) = none := by rw [g.mg]; exact gk.blt _ (by simp)
    refine ⟨PI.imp (pi_zip3 (glo_of g h1).1 hm (pa_cons (ha.pe g h2) (pa_cons (hb.pe g h3) pa_nil (star_cons (form_ns h3))) (star_cons (form_ns h2))) (star_cons (form_ns h2)) (star_plain (by rw [List.all_cons, form_ns h3]; rfl))) fun σ H R ⟨ρ, M, P, st, w, q⟩ => ⟨ρ, M, _, st, w, fun d M1 v H1 hx r1 m1 i1 => ⟨ρ, M1, _, st.step r1 m1, hx, fun d2 M2 u H2 ⟨xs, ys, e, e2, hz, hP⟩ r2 m2 i2 => ?_⟩⟩, rfl⟩
    rw [g.K]
    rcases walked_at (i1.mono r2) e with ⟨a, vs, e0, e1, q1, q2⟩ | ⟨a, vs, e0, e1, q1, q2⟩ | ⟨z, e0, e1, q1⟩
    · rcases walked_at i2 e2 with ⟨b, ws, f0, f1, p1, p2⟩ | ⟨b, ws, f0, f1, p1, p2⟩ | ⟨z, f0, f1, p1⟩
      · exact ⟨a, b, vs, ws, by rw [e1, f1], .inl ⟨SqL.of (cut_le _ _ q1), SqL.of (cut_le _ _ p1), q _ _ _ _ hP (r1.trans r2) m2 (wf_zipL q1 p1 q2 p2).wd fun _ => wf_zipL q1 p1 q2 p2⟩⟩
      · exact ⟨a, b, vs, ws, by rw [e1, f1], .inr (.inr ⟨SqL.of (cut_le _ _ q1), Evl.ex_t cut_le p1, q _ _ _ _ hP (r1.trans r2) m2 (wf_zipM q1 p1 q2 p2).wd fun _ => wf_zipM q1 p1 q2 p2⟩)⟩
      · subst f0; subst e0; cases hz
    · rcases walked_at i2 e2 with ⟨b, ws, f0, f1, p1, p2⟩ | ⟨b, ws, f0, f1, p1, p2⟩ | ⟨z, f0, f1, p1⟩
      · subst f0; subst e0; cases hz
      · exact ⟨a, b, vs, ws, by rw [e1, f1], .inr (.inl ⟨Evl.ex_t cut_le q1, Evl.ex_t cut_le p1, q _ _ _ _ hP (r1.trans r2) m2 (wf_zipT q1 p1 q2 p2).wd fun _ => wf_zipT q1 p1 q2 p2⟩)⟩
      · subst f0; subst e0; cases hz
    · subst e0; cases d2 <;> cases hz
  · cases h
theorem snd_enum (gk : GOk G) {e : E} (he : Snd G k e) : SndI G k (.enum e) := fun {c X x tg} g h => by
  simp only [chkIt] at h
  split at h
  · simp only [Bool.and_eq_true, decide_eq_true_eq] at h
    obtain ⟨⟨rfl, h1⟩, h2⟩ := h
    have hm : X.mg ("enumerate" : Str) = none := by rw [g.mg]; exact gk.blt _ (by simp)
    refine ⟨PI.imp (pi_enum2 (glo_of g h1).1 hm (pa_cons (he.pe g h2) pa_nil (star_cons (form_ns h2))) (star_cons (form_ns h2))) fun σ H R ⟨ρ, M, P, st, w, q⟩ => ⟨ρ, M, _, st, w, fun d M1 v H1 ⟨xs, e, hs, hP⟩ r1 m1 i1 => ?_⟩, rfl⟩
    rw [g.K]
    rcases walked_at i1 e with ⟨a, vs, e0, e1, q1, q2⟩ | ⟨a, vs, e0, e1, q1, q2⟩ | ⟨z, e0, e1, q1⟩
    · exact ⟨a, vs, by rw [e1], .inl ⟨SqL.of (cut_le _ _ q1), q _ _ _ _ hP r1 m1 (wf_enumL q1 q2).wd fun _ => wf_enumL q1 q2⟩⟩
    · exact ⟨a, vs, by rw [e1], .inr ⟨Evl.ex_t cut_le q1, q _ _ _ _ hP r1 m1 (wf_enumT q1 q2).wd fun _ => wf_enumT q1 q2⟩⟩
    · subst e0; cases hs
  · cases h
end
end Sp
end
section
set_option Elab.async false
set_option linter.all false
set_option maxRecDepth 100000
set_option maxHeartbeats 2000000
/-! Part C5: comprehensions; all expressions. -/
namespace Sp
open PySem PySem.Spec PyProof.Rows L2
section
variable {G : Gc} {M M1 : Mem} {H H1 : Hp} {Q : VK} {X : Cx} {c : Cc} {k : Nat}

/-! ### targets -/
def gNs : List Nat → TGs
  | [] => gNil
  | i :: is => gCons (gName i) (gNs is)
def gT (K : PySem.W.Frag) : T → TG
  | .one i => gName i
  | .tup is => gTup K is.length (gNs is)
theorem sto_of {i : Nat} {x : Str} (g : Good G c k X) (h : c.sto i x = true) : X.N[i]? = some x ∧ L2.Loc X.env.scope x ∧ (X.fn x = true ∨ X.env.scope.names.lookup x = some .local) := by
  unfold Cc.sto at h
  simp only [Bool.and_eq_true, decide_eq_true_eq] at h
  obtain ⟨h1, h2⟩ := h
  rw [g.N, g.sc]
  refine ⟨h1, ?_⟩
  unfold L2.Loc
  split at h2
  · rename_i e; exact ⟨.inl e, .inr e⟩
  · rename_i e; exact ⟨.inr e, .inl (g.fb x h2)⟩
  · cases h2
theorem pg_one {i : Nat} {x : Str} {p : Pos} (g : Good G c k X) (h : c.sto i x = true) : PG X (.Name x p) (gName i) := by
  obtain ⟨h1, h2, h3⟩ := sto_of g h
  exact pg_name (by rw [g.N]; exact g.nd) h1 h2 h3
theorem pgs_ns (g : Good G c k X) : ∀ {is : List Nat} {es : List Expr}, c.tns is es = true → PGs X es (gNs is) ∧ (assignEach es X.env).length = is.length ∧ (assignEach es X.env).findIdx? (·.1) = none
  | [], [], h => ⟨pgs_nil, rfl, rfl⟩
  | [], _ :: _, h => by cases h
  | i :: is, [], h => by cases h
  | i :: is, e :: es, h => by
    cases e with
    | Name x p =>
      simp only [Cc.tns, Bool.and_eq_true] at h
      obtain ⟨a, b, d⟩ := pgs_ns g h.2
      refine ⟨pgs_cons (pg_one g h.1) a rfl, ?_, ?_⟩
      · show (assignEach es X.env).length + 1 = is.length + 1
        rw [b]
      · show List.findIdx? (·.1) ((false, assign (.Name x p) X.env) :: assignEach es X.env) = none
        rw [List.findIdx?_cons, d]; rfl
    | _ => cases h
theorem pg_T (g : Good G c k X) {t : T} {tg : Expr} (h : c.tg t tg = true) : PG X tg (gT X.K t) := by
  cases t with
  | one i =>
    cases tg with
    | Name x p => exact pg_one g h
    | _ => cases h
  | tup is =>
    cases tg with
    | Tuple es kk p =>
      obtain ⟨a, b, d⟩ := pgs_ns g (show c.tns is es = true from h)
      exact pg_tup g.calm a b d
    | _ => cases h
theorem ns_wp : ∀ {is : List Nat} {ds : List D} {vs : List V} {σ : L2.St} {ρ : Rho} {H : Hp} {Q : L2.St → Hp → Prop}, StIs G M H σ ρ → IsL G (cut M H) ds vs → ds.length = is.length →
    (∀ σ', StIs G M H σ' (setAll is ds ρ) → (∀ (j : Nat), j ∉ is → σ'[j]? = σ[j]?) → σ'.length = σ.length → Q σ' H) → gNs is vs σ H Q
  | [], [], vs, σ, ρ, H, Q, st, l, hl, q => by
    cases l
    exact ⟨rfl, q σ st (fun _ _ => rfl) rfl⟩
  | [], _ :: _, vs, σ, ρ, H, Q, st, l, hl, q => by cases hl
  | i :: is, [], vs, σ, ρ, H, Q, st, l, hl, q => by cases hl
  | i :: is, d :: ds, vs, σ, ρ, H, Q, st, l, hl, q => by
    obtain ⟨v, r, rfl, h1, h2⟩ := l
    refine ⟨v, r, rfl, ns_wp (st.set i h1) h2 (by simpa using hl) fun σ' st' hj hn => q σ' st' (fun j hjn => ?_) (by rw [hn, List.length_set])⟩
    simp only [List.mem_cons, not_or] at hjn
    rw [hj j hjn.2, List.getElem?_set_ne (fun e => hjn.1 e.symm)]
theorem T_wp {t : T} {d : D} {v : V} {σ : L2.St} {ρ : Rho} {R : Rho → Prop} {Q : L2.St → Hp → Prop} (st : StIs G M H σ ρ) (i : Is G (cut M H) d v) (b : bindT t d ρ R)
    (q : ∀ σ' ρ', R ρ' → StIs G M H σ' ρ' → (∀ (j : Nat), j ∉ t.slots → σ'[j]? = σ[j]?) → σ'.length = σ.length → Q σ' H) : gT G.K t v σ H Q := by
  cases t with
  | one n =>
    refine q _ _ b (st.set n i) (fun j hj => ?_) List.length_set
    rw [List.getElem?_set_ne (fun e => hj (by rw [← e]; exact List.mem_singleton.mpr rfl))]
  | tup is =>
    obtain ⟨xs, rfl, hl, b⟩ := b
    obtain ⟨a, vs, h1, h2, h3⟩ := tup_at i
    exact ⟨a, vs, h1, h2, by rw [← h3.length, hl], ns_wp st h3 hl fun σ' st' hj hn => q σ' _ b st' hj hn⟩

/-! ### forgetting -/
theorem wipe_get : ∀ (vs : List Nat) (σ : L2.St) (j : Nat), (wipe σ vs)[j]? = if j ∈ vs ∧ j < σ.length then some none else σ[j]?
  | [], σ, j => by simp [wipe]
  | v :: vs, σ, j => by
    unfold wipe
    by_cases e : v = j
    · subst e
      by_cases hl : v < σ.length
      · rw [List.getElem?_set_self (by rw [wipe_length]; exact hl), if_pos ⟨List.mem_cons_self, hl⟩]
      · rw [List.getElem?_eq_none (by rw [List.length_set, wipe_length]; omega), if_neg (fun z => hl z.2), List.getElem?_eq_none (by omega)]
    · rw [List.getElem?_set_ne e, wipe_get vs σ j]
      by_cases hm : j ∈ vs
      · by_cases hl : j < σ.length
        · rw [if_pos ⟨hm, hl⟩, if_pos ⟨List.mem_cons_of_mem _ hm, hl⟩]
        · rw [if_neg (fun z => hl z.2), if_neg (fun z => hl z.2)]
      · rw [if_neg (fun z => hm z.1), if_neg (fun z => by
          rcases List.mem_cons.mp z.1 with q | q
          · exact e q.symm
          · exact hm q)]
theorem wipeR_get : ∀ (vs : List Nat) (σ : Rho) (j : Nat) (d : D), (wipeR σ vs)[j]? = some (some d) → j ∉ vs ∧ σ[j]? = some (some d)
  | [], σ, j, d, h => ⟨by simp, h⟩
  | v :: vs, σ, j, d, h => by
    unfold wipeR at h
    by_cases e : v = j
    · subst e
      by_cases hl : v < (wipeR σ vs).length
      · rw [List.getElem?_set_self hl] at h; cases h
      · rw [List.getElem?_eq_none (by rw [List.length_set]; omega)] at h; cases h
    · rw [List.getElem?_set_ne e] at h
      obtain ⟨a, b⟩ := wipeR_get vs σ j d h
      exact ⟨by simp only [List.mem_cons, not_or]; exact ⟨fun q => e q.symm, a⟩, b⟩
theorem wipeR_length (σ : Rho) : ∀ vs : List Nat, (wipeR σ vs).length = σ.length
  | [] => rfl
  | v :: vs => by unfold wipeR; rw [List.length_set, wipeR_length σ vs]
theorem StIs.wipe {σ : L2.St} {ρ : Rho} (st : StIs G M H σ ρ) (vs : List Nat) : StIs G M H (L2.wipe σ vs) (wipeR ρ vs) := by
  refine ⟨st.mem, fun j d h => ?_, by rw [wipeR_length, wipe_length, st.len]⟩
  obtain ⟨a, b⟩ := wipeR_get vs ρ j d h
  obtain ⟨v, h1, h2⟩ := st.loc j d b
  exact ⟨v, by rw [wipe_get, if_neg (fun z => a z.1)]; exact h1, h2⟩
theorem wipe_again {σ σ' : L2.St} {vs : List Nat} (h : ∀ (j : Nat), j ∉ vs → σ'[j]? = (wipe σ vs)[j]?) (hl : σ'.length = (wipe σ vs).length) : wipe σ' vs = wipe σ vs := by
  refine List.ext_getElem? fun j => ?_
  rw [wipe_length] at hl
  rw [wipe_get]
  by_cases hm : j ∈ vs
  · rw [wipe_get, hl]
    by_cases q : j < σ.length
    · rw [if_pos ⟨hm, q⟩, if_pos ⟨hm, q⟩]
    · rw [if_neg (fun z => q z.2), if_neg (fun z => q z.2), List.getElem?_eq_none (by omega), List.getElem?_eq_none (by omega)]
  · rw [if_neg (fun z => hm z.1), h j hm]

/-! ### comprehensions -/
theorem Good.blk (g : Good G c k X) {scope : Scope} {own : List (Str × Nat)} (ok : BlkOk X.N X.env.scope scope own) (s : Shared) (H : Hp) (C : Addr) (cl : List (Str × Addr)) (fp : List Addr) :
    Good G (c.blk scope) k (X.blk s H scope (compEnvC scope cl C X.env) fp) :=
  ⟨g.prog, g.w, g.K, g.mg, g.base, g.N, g.nd, by show relS scope X.env.scope = _; rw [g.sc]; rfl, by show scope.kind = _; exact ok.kind, fun x h => h, g.calm, rfl, g.room⟩
theorem own_slots (N : List Str) (t : T) : (t.own N).map (·.2) = t.slots := by
  cases t with
  | one i => rfl
  | tup is =>
    unfold T.own T.slots
    rw [List.map_map]
    exact List.map_id' _
theorem take_some {ys : List (Option D)} {i : Nat} {y : D} (h : ys[i]? = some (some y)) : (ys.take (i + 1)).filterMap id = (ys.take i).filterMap id ++ [y] := by
  rw [List.take_succ, h, List.filterMap_append]; rfl
theorem take_none {ys : List (Option D)} {i : Nat} (h : ys[i]? = some none) : (ys.take (i + 1)).filterMap id = (ys.take i).filterMap id := by
  rw [List.take_succ, h, List.filterMap_append]; exact List.append_nil _
theorem lc_wp {elt q : E} {t : T} {it : It} {m : Bool} : ∀ (σ : L2.St) (H : Hp) (Q : VK), tE G (.lc elt t it q m) σ H Q → tLc (tIt G it) (gT G.K t) (tT G q) (tE G elt) t.slots σ H Q := fun σ H Q ⟨ρ, M, P, st, w, fin⟩ =>
  ⟨ρ, M, _, st, w, fun xs M1 J H1 hx r1 m1 wd _ => fun D hD => by
    obtain ⟨hlen, ys, hys, body, last⟩ := hx
    obtain ⟨Y, w1, w2⟩ := wd
    have hDn : M1 D = none := m1.free hD
    have le : ∀ ds : List Sp.D, M1.le (M1.set D (.lst ds)) := fun ds b d h => by
      have e : b ≠ D := fun e => by rw [e, hDn] at h; cases h
      rw [Mem.set_ne e]; exact h
    refine lc_it w1 (fun i H => MIs G (M1.set D (.lst ((ys.take i).filterMap id))) H ∧ Ex (cut M1 H1) (cut (M1.set D (.lst ((ys.take i).filterMap id))) H)) ⟨m1.new hD IsL.nil, rch_new hD⟩ (fun i H _ p => ⟨_, le _, p.1, p.2⟩) (fun i x H2 H3 hi p y => ?_) (fun H2 p => ?_)
    · obtain ⟨e23, d, hd, isd⟩ := w2 i H2 x H3 hi y ⟨_, le _, p.1, p.2⟩
      have m3 := p.1.mono e23
      have i3 := isd _ (le _) p.1 p.2
      have ex3 : Ex (cut M1 H1) (cut (M1.set D (.lst ((ys.take i).filterMap id))) H3) := Evl.Ex.trans p.2 (cut_mono e23)
      have st3 : StIs G (M1.set D (.lst ((ys.take i).filterMap id))) H3 (wipe σ t.slots) (wipeR ρ t.slots) := (st.step (Evl.Ex.trans r1 ex3) m3).wipe _
      refine T_wp st3 i3 (body _ i d (le _) hd) fun σ2 ρ2 hb st2 hj hl => ⟨wipe_again hj hl, ρ2, _, _, st2, hb, fun z M2 u H4 ⟨eM, kk, ez, hk⟩ r4 m4 i4 => ⟨kk, by subst ez; rfl, ?_⟩⟩
      subst eM
      have ex4 : Ex (cut M1 H1) (cut (M1.set D (.lst ((ys.take i).filterMap id))) H4) := Evl.Ex.trans ex3 r4
      cases kk with
      | true =>
        refine ⟨ρ2, _, _, st2.step r4 m4, hk, fun y2 M3 v4 H5 ⟨eM, hy⟩ r5 m5 i5 => ?_⟩
        subst eM
        have ex5 : Ex (cut M1 H1) (cut (M1.set D (.lst ((ys.take i).filterMap id))) H5) := Evl.Ex.trans ex4 r5
        obtain ⟨acc, hacc, lacc⟩ := m5.lst Mem.set_same
        refine ⟨acc, hacc, ?_, ?_⟩
        · have h1 := lacc.length
          have h2 := List.length_filterMap_le id (ys.take i)
          have h3 : (ys.take i).length ≤ i := by rw [List.length_take]; omega
          exact Nat.lt_of_lt_of_le (show acc.length < 100000 by omega) (by decide)
        · rw [take_some hy, ← Mem.set_set (d := .lst ((ys.take i).filterMap id))]
          exact ⟨m5.put Mem.set_same (lacc.append (IsL.cons i5 IsL.nil)), Evl.Ex.trans ex5 (rch_put Mem.set_same)⟩
      | false =>
        have hk : ys[i]? = some none := hk
        show MIs G (M1.set D (.lst ((ys.take (i + 1)).filterMap id))) H4 ∧ Ex (cut M1 H1) (cut (M1.set D (.lst ((ys.take (i + 1)).filterMap id))) H4)
        rw [take_none hk]
        exact ⟨m4, ex4⟩
    · rw [← hys, List.take_length] at p
      cases m with
      | true => exact fin _ _ _ _ (last D hDn) (Evl.Ex.trans r1 p.2) p.1 rfl
      | false =>
        have f := p.1.freeze Mem.set_same
        have md := p.1.del D
        rw [Mem.set_del hDn] at f md
        have ex : Ex (cut M1 H1) (cut ((M1.set D (.lst (ys.filterMap id))).del D) H2) := Evl.Ex.trans p.2 cut_del
        rw [Mem.set_del hDn] at ex
        exact fin _ _ _ _ last (Evl.Ex.trans r1 ex) md f⟩
/-- the parts that the rules of a comprehension want -/
theorem lc_parts {elt q : E} {t : T} {it : It} {m : Bool} {x : Expr} (he : Snd G k elt) (hi : SndI G k it) (hq : Snd G k q) (g : Good G c k X) (h : chkE c (.lc elt t it q m) x = true) :
    ∃ e tg iter ifs scope pos, x = .ListComp e [⟨tg, iter, ifs, 0⟩] scope pos ∧ PI X tg iter (tIt G it) ∧ BlkOk X.N X.env.scope scope (t.own c.N) ∧ noSet iter = true ∧
      (∀ (s : Shared) (H : Hp) (C : Addr) (cl : List (Str × Addr)) (fp : List Addr), PG (X.blk s H scope (compEnvC scope cl C X.env) fp) tg (gT G.K t)) ∧
      (∀ (s : Shared) (H : Hp) (C : Addr) (cl : List (Str × Addr)) (fp : List Addr), PTs (X.blk s H scope (compEnvC scope cl C X.env) fp) ifs (tT G q)) ∧
      (∀ (s : Shared) (H : Hp) (C : Addr) (cl : List (Str × Addr)) (fp : List Addr), PE (X.blk s H scope (compEnvC scope cl C X.env) fp) e (tE G elt)) := by
  simp only [chkE] at h
  split at h
  · rename_i x₁ e tg iter ifs scope pos
    simp only [Bool.and_eq_true, decide_eq_true_eq] at h
    obtain ⟨⟨⟨⟨⟨⟨h1, h2⟩, h3⟩, h4⟩, h5⟩, _⟩, h6⟩ := h
    have ok : BlkOk X.N X.env.scope scope (t.own c.N) := by rw [g.N, g.sc]; exact blkOk_by h1
    obtain ⟨p1, p2⟩ := hi g h2
    refine ⟨e, tg, iter, ifs, scope, pos, rfl, p1, ok, p2, fun s H C cl fp => ?_, fun s H C cl fp => ?_, fun s H C cl fp => he.pe (g.blk ok s H C cl fp) h4⟩
    · rw [← g.K]; exact pg_T (g.blk ok s H C cl fp) h3
    · split at h6
      · cases q with
        | bl b =>
          cases b with
          | true =>
            refine PTs.imp pts_nil fun σ H Q ⟨ρ, M, P, st, w, fin⟩ => ?_
            obtain ⟨b, e1, e2⟩ := fin (.bl true) M (.bl true) H w Rch.refl st.mem rfl
            cases e1
            exact e2
          | false => cases h6
        | _ => cases h6
      · exact pts_one (hq.pt (g.blk ok s H C cl fp) h6 h5).1
      · cases h6
  · cases h
theorem snd_lc {elt q : E} {t : T} {it : It} {m : Bool} (he : Snd G k elt) (hi : SndI G k it) (hq : Snd G k q) : Snd G k (.lc elt t it q m) := Snd.plain fun {c X x} g h => by
  obtain ⟨e, tg, iter, ifs, scope, pos, rfl, p1, ok, p2, p3, p4, p5⟩ := lc_parts he hi hq g h
  refine ⟨PE.imp (pe_lc g.calm (by rw [g.N]; exact g.nd) p1 ok p3 p4 p5 (folded_of p2)) fun σ H Q w => ?_, rfl⟩
  rw [own_slots]
  exact lc_wp σ H Q w

/-! ### all of them -/
mutual
theorem snd (gk : GOk G) : ∀ e : E, allE (CallOk G k) (MethOk G k) e → Snd G k e
  | .var i, _ => snd_var i
  | .int i, _ => snd_int i
  | .str i, _ => snd_str i
  | .non, _ => snd_non
  | .bl b, _ => snd_bl b
  | .glob i, _ => snd_glob gk i
  | .op _ a b, h => snd_op (snd gk a h.1) (snd gk b h.2)
  | .neg a, h => snd_neg (snd gk a h)
  | .cmp _ a b, h => snd_cmp (snd gk a h.1) (snd gk b h.2)
  | .isN a, h => snd_isN (snd gk a h)
  | .notN a, h => snd_notN (snd gk a h)
  | .ch2 _ _ a b d, h => snd_ch2 (snd gk a h.1) (snd gk b h.2.1) (snd gk d h.2.2)
  | .ch3 _ _ _ a b d e, h => snd_ch3 (snd gk a h.1) (snd gk b h.2.1) (snd gk d h.2.2.1) (snd gk e h.2.2.2)
  | .and a b, h => snd_and (snd gk a h.1) (snd gk b h.2)
  | .or a b, h => snd_or (snd gk a h.1) (snd gk b h.2)
  | .not a, h => snd_not (snd gk a h)
  | .ife a b d, h => snd_ife (snd gk a h.1) (snd gk b h.2.1) (snd gk d h.2.2)
  | .attr a _, h => snd_attr gk (snd gk a h)
  | .idx a b, h => snd_idx (snd gk a h.1) (snd gk b h.2)
  | .slLo a b, h => snd_slLo (snd gk a h.1) (snd gk b h.2)
  | .slHi a b, h => snd_slHi (snd gk a h.1) (snd gk b h.2)
  | .slB a b d, h => snd_slB (snd gk a h.1) (snd gk b h.2.1) (snd gk d h.2.2)
  | .rev a, h => snd_rev (snd gk a h)
  | .lst es, h => snd_lst (snds gk es h)
  | .lstM es, h => snd_lstM (snds gk es h)
  | .tup es, h => snd_tup (snds gk es h)
  | .repM a b, h => snd_repM (snd gk a h.1) (snd gk b h.2)
  | .lc a _ it q _, h => snd_lc (snd gk a h.1) (sndI gk it h.2.1) (snd gk q h.2.2)
  | .call f es ks, h => snd_call h.1 (snds gk es h.2.1) (snds gk ks h.2.2)
  | .meth c f o es, h => snd_meth h.1 (snd gk o h.2.1) (snds gk es h.2.2)
  | .bi _ es, h => snd_bi gk (snds gk es h)
  | .isP a, h => snd_isP gk (snd gk a h)
  | .inP a, h => snd_inP gk (snd gk a h)
  | .pop a, h => snd_pop (snd gk a h)
  | .frz a, h => snd_frz (snd gk a h)
theorem snds (gk : GOk G) : ∀ es : Es, allEs (CallOk G k) (MethOk G k) es → SndA G k es
  | .nil, _ => snd_nil
  | .cons e r, h => snd_cons (snd gk e h.1) (snds gk r h.2)
theorem sndI (gk : GOk G) : ∀ it : It, allIt (CallOk G k) (MethOk G k) it → SndI G k it
  | .seq e, h => snd_seq (snd gk e h)
  | .seqM e, h => snd_seqM (snd gk e h)
  | .rng1 e, h => snd_rng1 gk (snd gk e h)
  | .rng2 a b, h => snd_rng2 gk (snd gk a h.1) (snd gk b h.2)
  | .zip a b, h => snd_zip gk (snd gk a h.1) (snd gk b h.2)
  | .enum e, h => snd_enum gk (snd gk e h)
end
end
end Sp
end
section
set_option Elab.async false
set_option linter.all false
set_option maxRecDepth 100000
set_option maxHeartbeats 2000000
/-! Part C6: statements; defs; calls by their promises. -/
namespace Sp
open PySem PySem.Spec PyProof.Rows L2
theorem PS.imp {X : Cx} {e : Stmt} {t t' : TS} (h : PS X e t) (hi : ∀ D σ H, t' D σ H → t D σ H) : PS X e t' := ⟨fun pins s σ H D I hw => h.run pins s σ H D I (hi D σ H hw)⟩
theorem PSs.imp {X : Cx} {e : List Stmt} {t t' : TS} (h : PSs X e t) (hi : ∀ D σ H, t' D σ H → t D σ H) : PSs X e t' := ⟨fun pins s σ H D I hw => h.run pins s σ H D I (hi D σ H hw)⟩
structure ClK (G : Gc) (M : Mem) (H : Hp) (K : Kn) (D : Ends) : Prop where
  nx : ∀ ρ' M' σ' H', K.nx ρ' M' → Rch M H M' H' → StIs G M' H' σ' ρ' → D.nx σ' H'
  rt : Cl G M H K.rt D.rt
  bk : ∀ ρ' M' σ' H', K.bk ρ' M' → Rch M H M' H' → StIs G M' H' σ' ρ' → D.bk σ' H'
  ct : ∀ ρ' M' σ' H', K.ct ρ' M' → Rch M H M' H' → StIs G M' H' σ' ρ' → D.ct σ' H'
theorem ClK.mono {G : Gc} {M M1 : Mem} {H H1 : Hp} {K : Kn} {D : Ends} (q : ClK G M H K D) (r : Rch M H M1 H1) : ClK G M1 H1 K D :=
  ⟨fun a b c d p r' s => q.nx a b c d p (r.trans r') s, q.rt.mono r, fun a b c d p r' s => q.bk a b c d p (r.trans r') s, fun a b c d p r' s => q.ct a b c d p (r.trans r') s⟩
def tS (G : Gc) (s : S) : TS := fun D σ H => ∃ ρ M K, StIs G M H σ ρ ∧ wpS s ρ M K ∧ ClK G M H K D
def tSs (G : Gc) (s : Ss) : TS := fun D σ H => ∃ ρ M K, StIs G M H σ ρ ∧ wpSs s ρ M K ∧ ClK G M H K D
mutual
def allS (pc : Ent → Prop) (pm : Nat → Ent → Prop) : S → Prop
  | .asg _ e => allE pc pm e
  | .asgT _ e => allE pc pm e
  | .asgX a i e => allE pc pm a ∧ allE pc pm i ∧ allE pc pm e
  | .fld a _ e => allE pc pm a ∧ allE pc pm e
  | .aug _ e => allE pc pm e
  | .app l e => allE pc pm l ∧ allE pc pm e
  | .exp e => allE pc pm e
  | .iff c a b => allE pc pm c ∧ allSs pc pm a ∧ allSs pc pm b
  | .forr _ it b => allIt pc pm it ∧ allSs pc pm b
  | .whil c b => allE pc pm c ∧ allSs pc pm b
  | .ret e => allE pc pm e
  | .brk => True
  | .nev => True
def allSs (pc : Ent → Prop) (pm : Nat → Ent → Prop) : Ss → Prop
  | .nil => True
  | .cons s r => allS pc pm s ∧ allSs pc pm r
end
section
variable {G : Gc} {M M1 : Mem} {H H1 : Hp} {X : Cx} {c : Cc} {k : Nat}
def SndS (G : Gc) (k : Nat) (s : S) : Prop := ∀ {c : Cc} {X : Cx} {x : Stmt}, Good G c k X → chkS c s x = true → PS X x (tS G s)
def SndSs (G : Gc) (k : Nat) (s : Ss) : Prop := ∀ {c : Cc} {X : Cx} {x : List Stmt}, Good G c k X → chkSs c s x = true → PSs X x (tSs G s)
theorem swaps_no {y : Expr} {t : Option Expr} {l : Nat} {env : PySem.Env} (h : noComp y = true) : swapsWith y t l env = pure false := by
  cases y <;> first | rfl | (simp [noComp] at h)
theorem asg_wp {i : Nat} {e : E} : ∀ D σ H, tS G (.asg i e) D σ H → tAsg (tE G e) (gName i) D σ H := fun D σ H ⟨ρ, M, K, st, w, q⟩ =>
  ⟨ρ, M, _, st, w, fun d M1 v H1 hx r1 m1 i1 => q.nx _ _ _ _ hx r1 ((st.step r1 m1).set i i1)⟩
/-- name = [..]: on either of the two roads -/
theorem ps_lc {i : Nat} {y : Str} {py spos : Pos} {elt q : E} {t : T} {it : It} {m : Bool} {x : Expr} (he : Snd G k elt) (hi : SndI G k it) (hq : Snd G k q) (g : Good G c k X) (h0 : c.sto i y = true) (h : chkE c (.lc elt t it q m) x = true) :
    PS X (.Assign [.Name y py] x spos) (tS G (.asg i (.lc elt t it q m))) := by
  obtain ⟨e, tg, iter, ifs, scope, pos, rfl, p1, ok, p2, p3, p4, p5⟩ := lc_parts he hi hq g h
  obtain ⟨s1, s2, s3⟩ := sto_of g h0
  have hN : X.N.Nodup := by rw [g.N]; exact g.nd
  have hk : X.env.scope.kind = .function := by rw [g.sc]; exact g.fk
  have wp : ∀ D σ H, tS G (.asg i (.lc elt t it q m)) D σ H → tAsg (tLc (tIt G it) (gT G.K t) (tT G q) (tE G elt) ((t.own c.N).map (·.2))) (gName i) D σ H := fun D σ H w => by
    rw [own_slots]
    exact lc_wp σ H _ (asg_wp D σ H w)
  by_cases hy : X.env.scope.names.lookup y = some .local
  · by_cases hl : (py.line == pos.line) = true
    · by_cases ha : (scope.names.any fun (n, k) => n == y && (k == .local || k == .cell)) = false
      · exact PS.imp (ps_setLc g.calm hN s1 hy (sw_true hk hy hl ha) p1 ok p3 p4 p5 (folded_of p2)) wp
      · refine PS.imp (ps_set hN s1 s2 (pe_lc g.calm hN p1 ok p3 p4 p5 (folded_of p2)) ?_ s3) wp
        unfold swapsWith
        show (pure _ : Sem Bool) = pure false
        congr 1
        have ha' : (scope.names.any fun (n, k) => n == y && (k == .local || k == .cell)) = true := by
          cases q : (scope.names.any fun (n, k) => n == y && (k == .local || k == .cell)) with
          | true => rfl
          | false => exact absurd q ha
        rw [ha']
        simp
    · refine PS.imp (ps_set hN s1 s2 (pe_lc g.calm hN p1 ok p3 p4 p5 (folded_of p2)) ?_ s3) wp
      unfold swapsWith
      show (pure _ : Sem Bool) = pure false
      congr 1
      have hl' : (py.line == pos.line) = false := by
        cases q : (py.line == pos.line) with
        | false => rfl
        | true => exact absurd q hl
      show (_ && _ && (py.line == pos.line) && _) = false
      rw [hl']
      simp
  · refine PS.imp (ps_set hN s1 s2 (pe_lc g.calm hN p1 ok p3 p4 p5 (folded_of p2)) ?_ s3) wp
    unfold swapsWith
    show (pure _ : Sem Bool) = pure false
    congr 1
    have hy' : (X.env.kindOf y == some NameKind.local) = false := by
      rw [beq_eq_false_iff_ne]; exact hy
    rw [hy']
    simp
theorem snd_asg {i : Nat} {e : E} (he : Snd G k e) (hlc : ∀ elt t it q m, e = .lc elt t it q m → Snd G k elt ∧ SndI G k it ∧ Snd G k q) : SndS G k (.asg i e) := fun {c X x} g h => by
  simp only [chkS] at h
  split at h
  · simp only [Bool.and_eq_true] at h
    obtain ⟨⟨h1, h2⟩, h3⟩ := h
    split at h3
    · obtain ⟨a, b, d⟩ := hlc _ _ _ _ _ rfl
      exact ps_lc a b d g h1 h2
    · obtain ⟨s1, s2, s3⟩ := sto_of g h1
      exact PS.imp (ps_set (by rw [g.N]; exact g.nd) s1 s2 (he.pe g h2) (swaps_no h3) s3) asg_wp
  · cases h
theorem snd_asgT {is : List Nat} {e : E} (he : Snd G k e) : SndS G k (.asgT is e) := fun {c X x} g h => by
  simp only [chkS] at h
  split at h
  · rename_i es kk tp y pos
    simp only [Bool.and_eq_true] at h
    obtain ⟨⟨⟨h1, h2⟩, h3⟩, h4⟩ := h
    refine PS.imp (ps_asg (he.pe g h2) (pg_T (t := .tup is) g h1) (by unfold swapsWithSole; exact swaps_no h3) ?_ rfl) fun D σ H ⟨ρ, M, K, st, w, q⟩ => ⟨ρ, M, _, st, w, fun d M1 v H1 hx r1 m1 i1 => ?_⟩
    · cases y <;> first | rfl | (simp at h4)
    · rw [g.K]
      exact T_wp (t := .tup is) (R := fun ρ' => K.nx ρ' M1) (st.step r1 m1) i1 hx fun σ' ρ' hR st' _ _ => q.nx _ _ _ _ hR r1 st'
  · cases h
theorem snd_asgX {a i e : E} (ha : Snd G k a) (hi : Snd G k i) (he : Snd G k e) : SndS G k (.asgX a i e) := fun {c X x} g h => by
  simp only [chkS] at h
  split at h
  · rename_i x1 y sp z pos
    simp only [Bool.and_eq_true] at h
    obtain ⟨⟨⟨h1, h2⟩, h3⟩, h4⟩ := h
    have hsl := form_sl h2
    refine PS.imp (ps_asg (he.pe g h3) (pg_sub (ha.pe g h1) (hi.pe g h2) set_list ?_) (by unfold swapsWithSole; exact swaps_no h4) ?_ rfl) fun D σ H ⟨ρ, M, K, st, w, q⟩ => ⟨ρ, M, _, st, w, fun d M1 v H1 hx r1 m1 i1 =>
      ⟨ρ, M1, _, st.step r1 m1, hx, fun x2 M2 v2 H2 hx2 r2 m2 i2 => ⟨ρ, M2, _, (st.step r1 m1).step r2 m2, hx2, fun x3 M3 v3 H3 ⟨p, xs, n, j, e1, e2, e3, e4, hP⟩ r3 m3 i3 => ?_⟩⟩⟩
    · intro v
      cases y <;> first | rfl | (simp [noSl] at hsl)
    · cases z <;> rfl
    · subst e1 e3
      obtain ⟨vs, g1, g2⟩ := m3.lst e2
      have i2 : v2 = .ref p := i2
      refine ⟨p, vs, n, j, i2, i3, g1, by rw [← g2.length]; exact e4, ?_⟩
      have iv : Is G (cut M3 H3) d v := (i1.mono r2).mono r3
      exact q.nx _ _ _ _ hP (((r1.trans r2).trans r3).trans (rch_put e2)) ((((st.step r1 m1).step r2 m2).step r3 m3).step (rch_put e2) (m3.put e2 (g2.set j iv)))
  · cases h
theorem putF_zip : ∀ (ns : List Str) (vs : List V) (x : Str) (v : V), ns.findIdx? (· == x) = some vs.length → putF x v (ns.zip vs) = ns.zip (vs ++ [v])
  | [], vs, x, v, h => by simp at h
  | n :: ns, [], x, v, h => by
    rw [List.findIdx?_cons] at h
    by_cases e : (n == x) = true
    · rw [beq_iff_eq] at e
      subst e
      show putF n v [] = (n :: ns).zip [v]
      rw [List.zip_cons_cons, List.zip_nil_right]; rfl
    · rw [if_neg e] at h
      obtain ⟨q, _, e2⟩ := Option.map_eq_some_iff.mp h
      cases e2
  | n :: ns, w :: vs, x, v, h => by
    rw [List.findIdx?_cons] at h
    by_cases e : (n == x) = true
    · rw [if_pos e] at h; cases h
    · rw [if_neg e] at h
      obtain ⟨q, e1, e2⟩ := Option.map_eq_some_iff.mp h
      rw [List.zip_cons_cons, List.cons_append, List.zip_cons_cons]
      have ne : ¬ n = x := fun z => e (by rw [z]; exact beq_self_eq_true x)
      show (if n = x then _ else (n, w) :: putF x v (ns.zip vs)) = _
      rw [if_neg ne, putF_zip ns vs x v (by rw [e1]; congr 1; simpa using e2)]
theorem snd_fld (gk : GOk G) {a e : E} {f : Nat} (ha : Snd G k a) (he : Snd G k e) : SndS G k (.fld a f e) := fun {c X x} g h => by
  simp only [chkS] at h
  split at h
  · simp only [Bool.and_eq_true, decide_eq_true_eq] at h
    obtain ⟨⟨⟨rfl, h1⟩, h2⟩, h3⟩ := h
    refine PS.imp (ps_fld (ha.pe g h1) (he.pe g h2) (swaps_no h3)) fun D σ H ⟨ρ, M, K, st, w, q⟩ => ⟨ρ, M, _, st, w, fun d M1 v H1 hx r1 m1 i1 => ⟨ρ, M1, _, st.step r1 m1, hx, fun x2 M2 v2 H2 ⟨p, cc, ds, e1, e2, e3, hP⟩ r2 m2 i2 => ?_⟩⟩
    subst e1
    obtain ⟨dx, vs, g1, g2, g3⟩ := m2.ins e2
    obtain ⟨hc, hm, hi⟩ := fpos_lt e3
    have hl : ((cn cc).zip vs).length < 1000 := by
      have h1 : (cn cc).length ≤ 100 := by
        unfold cn cf
        split <;> simp
      have h2 : ((cn cc).zip vs).length ≤ (cn cc).length := by rw [List.length_zip]; omega
      omega
    have hlt : ds.length < (cn cc).length := by
      obtain ⟨hp, _⟩ := List.findIdx?_eq_some_iff_getElem.mp hi
      exact hp
    rw [g.K]
    refine ⟨p, G.ca cc, dx, _, i2, g1, gk.cls cc hc, gk.noa cc hc f hm, hl, ?_⟩
    rw [putF_zip _ _ _ _ (by rw [← g2.length]; exact hi)]
    refine q.nx _ _ _ _ hP ((r1.trans r2).trans (rch_put e2)) (((st.step r1 m1).step r2 m2).step (rch_put e2) (m2.putI e2 (g2.append (IsL.cons (i1.mono r2) IsL.nil)) ?_))
    rw [List.length_append, List.length_singleton]
    exact hlt
  · cases h
theorem snd_aug {i : Nat} {e : E} (he : Snd G k e) : SndS G k (.aug i e) := fun {c X x} g h => by
  simp only [chkS] at h
  split at h
  · simp only [Bool.and_eq_true] at h
    obtain ⟨h1, h2⟩ := h
    obtain ⟨s1, s2, s3⟩ := sto_of g h1
    refine PS.imp (ps_aug (by rw [g.N]; exact g.nd) s1 s2 (he.pe g h2) ip_add s3) fun D σ H ⟨ρ, M, K, st, ⟨n, en, w⟩, q⟩ => ?_
    obtain ⟨u, e1, e2⟩ := st.loc i _ en
    have e2 : u = .int n := e2
    subst e2
    refine ⟨.int n, e1, ρ, M, _, st, w, fun d M1 v H1 ⟨m, ed, hP⟩ r1 m1 i1 => ?_⟩
    subst ed
    exact ⟨n, m, rfl, i1, q.nx _ _ _ _ hP r1 ((st.step r1 m1).set i (d := .int (n + m)) rfl)⟩
  · cases h
theorem snd_app {l e : E} (hl : Snd G k l) (he : Snd G k e) : SndS G k (.app l e) := fun {c X x} g h => by
  simp only [chkS] at h
  split at h
  · simp only [Bool.and_eq_true, decide_eq_true_eq] at h
    obtain ⟨⟨⟨rfl, h0⟩, h1⟩, h2⟩ := h
    have hs := form_ns h2
    refine PS.imp (ps_expr (pe_bm PySem.F.plainAttrs_list PySem.F.slot_list_append PySem.F.type_list_append mt_append (hl.pe g h1) (pa_cons (he.pe g h2) pa_nil (star_cons hs)) (ab_of (form_nc h1)) (by rw [star_cons hs]; rfl) h0 (star_cons hs) rfl) rfl)
      fun D σ H ⟨ρ, M, K, st, w, q⟩ => ⟨ρ, M, _, st, w, fun x M1 v H1 ⟨⟨a, xs, e1, e2⟩, hx⟩ r1 m1 i1 => ?_⟩
    subst e1
    have i1 : v = .ref a := i1
    subst i1
    obtain ⟨vs, g1, _⟩ := m1.lst e2
    refine ⟨.inl ⟨rfl, vs, SqL.of g1⟩, ρ, M1, _, st.step r1 m1, hx, fun d M2 u H2 ⟨a', xs', e3, e4, hlen, hP⟩ r2 m2 i2 => ?_⟩
    cases e3
    obtain ⟨vs', g3, g4⟩ := m2.lst e4
    refine ⟨a, vs', u, rfl, rfl, g3, Evl.sz_lt (by rw [← g4.length]; exact hlen), ?_⟩
    exact q.nx _ _ _ _ hP ((r1.trans r2).trans (rch_put e4)) (((st.step r1 m1).step r2 m2).step (rch_put e4) (m2.put e4 (g4.append (IsL.cons i2 IsL.nil))))
  · cases h
theorem snd_exp {e : E} (he : Snd G k e) : SndS G k (.exp e) := fun {c X x} g h => by
  simp only [chkS] at h
  split at h
  · rename_i y pos
    simp only [Bool.and_eq_true] at h
    obtain ⟨h1, h2⟩ := h
    refine PS.imp (ps_expr (he.pe g h1) ?_) fun D σ H ⟨ρ, M, K, st, w, q⟩ => ⟨ρ, M, _, st, w, fun d M1 v H1 hx r1 m1 i1 => q.nx _ _ _ _ hx r1 (st.step r1 m1)⟩
    cases y <;> first | rfl | (simp at h2)
  · cases h
theorem snd_iff {q : E} {a b : Ss} (hq : Snd G k q) (ha : SndSs G k a) (hb : SndSs G k b) : SndS G k (.iff q a b) := fun {c X x} g h => by
  simp only [chkS] at h
  split at h
  · simp only [Bool.and_eq_true] at h
    obtain ⟨⟨⟨h0, h1⟩, h2⟩, h3⟩ := h
    refine PS.imp (ps_if (hq.pt g h1 h0).1 (ha g h2) (hb g h3)) fun D σ H ⟨ρ, M, K, st, w, q⟩ => ⟨ρ, M, _, st, w, fun d M1 v H1 ⟨kk, e, hk⟩ r1 m1 i1 => ⟨kk, e, ?_⟩⟩
    cases kk with
    | true => exact ⟨ρ, M1, K, st.step r1 m1, hk, q.mono r1⟩
    | false => exact ⟨ρ, M1, K, st.step r1 m1, hk, q.mono r1⟩
  · cases h
theorem never_ok (g : Good G c k X) : PassesOwn (model X.prog X.w) X.A X.env X.xe := by rw [g.xe]; exact PassesOwn.never
theorem snd_forr {t : T} {it : It} {b : Ss} (hi : SndI G k it) (hb : SndSs G k b) : SndS G k (.forr t it b) := fun {c X x} g h => by
  simp only [chkS] at h
  split at h
  · simp only [Bool.and_eq_true, Bool.not_eq_true'] at h
    obtain ⟨⟨⟨h0, h1⟩, h2⟩, h3⟩ := h
    obtain ⟨p1, p2⟩ := hi g h1
    refine PS.imp (ps_for (never_ok g) g.calm p1 (pg_T g h2) (hb g h3) (folded_of p2)) fun D σ H ⟨ρ, M, K, st, w, q⟩ => ⟨ρ, M, _, st, w, fun xs M1 J H1 ⟨I, hI0, hstep, hend⟩ r1 m1 _ wf => ?_⟩
    obtain ⟨Y, w1, w2⟩ := wf h0
    refine for_it w1 (fun i σ' H' => ∃ ρ' M', StIs G M' H' σ' ρ' ∧ Ex (cut M1 H1) (cut M' H') ∧ I i ρ' M') ⟨ρ, M1, st.step r1 m1, Evl.Ex.refl _, hI0⟩ (fun i σ' H' _ ⟨ρ', M', s', e', _⟩ => Evl.Ex.trans e' cut_le) (fun i v σ' H2 H3 hin ⟨ρ', M', s', e', hI⟩ y => ?_) (fun σ' H' ⟨ρ', M', s', e', hI⟩ => q.nx _ _ _ _ (hend _ _ hI) (Evl.Ex.trans r1 e') s')
    obtain ⟨e23, d, hd, isd⟩ := w2 i H2 v H3 hin (Evl.Ex.trans e' cut_le) y
    have i3 := isd M' s'.mem e'
    have s3 : StIs G M' H3 σ' ρ' := s'.step (Rch.of e23) (s'.mem.mono e23)
    have ex3 : Ex (cut M1 H1) (cut M' H3) := Evl.Ex.trans e' (cut_mono e23)
    rw [g.K]
    refine T_wp s3 i3 (hstep i d ρ' M' hd hI) fun σ2 ρ2 hb2 s2 _ _ => ⟨ρ2, M', _, s2, hb2, ?_⟩
    exact ⟨fun a b σ4 H4 p r s => ⟨a, b, s, Evl.Ex.trans ex3 r, p⟩, q.rt.mono (Evl.Ex.trans r1 ex3), fun a b σ4 H4 p r s => q.nx _ _ _ _ p (Evl.Ex.trans (Evl.Ex.trans r1 ex3) r) s, fun a b σ4 H4 p r s => ⟨a, b, s, Evl.Ex.trans ex3 r, p⟩⟩
  · cases h
theorem snd_whil {e : E} {b : Ss} (he : Snd G k e) (hb : SndSs G k b) : SndS G k (.whil e b) := fun {c X x} g h => by
  simp only [chkS] at h
  split at h
  · simp only [Bool.and_eq_true] at h
    obtain ⟨⟨h0, h1⟩, h2⟩ := h
    refine PS.imp (ps_while (never_ok g) (he.pt g h1 h0).1 (hb g h2)) fun D σ H ⟨ρ, M, K, st, ⟨I, ⟨n0, hI0⟩, hstep⟩, q⟩ => ?_
    refine ⟨fun m σ' H' => ∃ ρ' M', StIs G M' H' σ' ρ' ∧ Rch M H M' H' ∧ I m ρ' M', ⟨n0, ρ, M, st, Rch.refl, hI0⟩, fun m σ' H' ⟨ρ', M', s', r', hI⟩ => ⟨ρ', M', _, s', hstep m ρ' M' hI, fun d M1 v H1 ⟨kk, e, hk⟩ r1 m1 i1 => ⟨kk, e, ?_⟩⟩⟩
    cases kk with
    | false => exact q.nx _ _ _ _ hk (r'.trans r1) (s'.step r1 m1)
    | true =>
      refine ⟨fun σ2 H2 => ∃ m', m' < m ∧ ∃ ρ2 M2, StIs G M2 H2 σ2 ρ2 ∧ Rch M H M2 H2 ∧ I m' ρ2 M2, fun σ2 H2 h => h, ρ', M1, _, s'.step r1 m1, hk, ?_⟩
      exact ⟨fun a b σ4 H4 ⟨m', hm', p⟩ r s => ⟨m', hm', a, b, s, (r'.trans r1).trans r, p⟩, q.rt.mono (r'.trans r1), fun a b σ4 H4 p r s => q.nx _ _ _ _ p ((r'.trans r1).trans r) s, fun a b σ4 H4 ⟨m', hm', p⟩ r s => ⟨m', hm', a, b, s, (r'.trans r1).trans r, p⟩⟩
  · cases h
theorem snd_ret {e : E} (he : Snd G k e) : SndS G k (.ret e) := fun {c X x} g h => by
  simp only [chkS] at h
  split at h
  · exact PS.imp (ps_ret (he.pe g h)) fun D σ H ⟨ρ, M, K, st, w, q⟩ => ⟨ρ, M, _, st, w, q.rt⟩
  · cases h
theorem snd_brk : SndS G k .brk := fun {c X x} g h => by
  simp only [chkS] at h
  split at h
  · exact PS.imp ps_break fun D σ H ⟨ρ, M, K, st, w, q⟩ => q.bk _ _ _ _ w Rch.refl st
  · cases h
theorem snd_nev : SndS G k .nev := fun {c X x} g h => PS.imp ps_never fun D σ H ⟨ρ, M, K, st, w, q⟩ => w.elim
theorem snd_snil : SndSs G k .nil := fun {c X x} g h => by
  cases x with
  | nil => exact PSs.imp pss_nil fun D σ H ⟨ρ, M, K, st, w, q⟩ => q.nx _ _ _ _ w Rch.refl st
  | cons _ _ => cases h
theorem snd_scons {s : S} {r : Ss} (hs : SndS G k s) (hr : SndSs G k r) : SndSs G k (.cons s r) := fun {c X x} g h => by
  cases x with
  | nil => cases h
  | cons y ys =>
    simp only [chkSs, Bool.and_eq_true] at h
    refine PSs.imp (pss_cons (hs g h.1) (hr g h.2)) fun D σ H ⟨ρ, M, K, st, w, q⟩ => ⟨ρ, M, _, st, w, ?_⟩
    exact ⟨fun a b σ4 H4 p r s => ⟨a, b, K, s, p, q.mono r⟩, q.rt, q.bk, q.ct⟩
mutual
theorem sndS (gk : GOk G) : ∀ s : S, allS (CallOk G k) (MethOk G k) s → SndS G k s
  | .asg i e, h => snd_asg (snd gk e h) fun elt t it q m z => by
    subst z
    exact ⟨snd gk elt h.1, sndI gk it h.2.1, snd gk q h.2.2⟩
  | .asgT _ e, h => snd_asgT (snd gk e h)
  | .asgX a i e, h => snd_asgX (snd gk a h.1) (snd gk i h.2.1) (snd gk e h.2.2)
  | .fld a _ e, h => snd_fld gk (snd gk a h.1) (snd gk e h.2)
  | .aug _ e, h => snd_aug (snd gk e h)
  | .app l e, h => snd_app (snd gk l h.1) (snd gk e h.2)
  | .exp e, h => snd_exp (snd gk e h)
  | .iff c a b, h => snd_iff (snd gk c h.1) (sndSs gk a h.2.1) (sndSs gk b h.2.2)
  | .forr _ it b, h => snd_forr (sndI gk it h.1) (sndSs gk b h.2)
  | .whil c b, h => snd_whil (snd gk c h.1) (sndSs gk b h.2)
  | .ret e, h => snd_ret (snd gk e h)
  | .brk, _ => snd_brk
  | .nev, _ => snd_nev
theorem sndSs (gk : GOk G) : ∀ s : Ss, allSs (CallOk G k) (MethOk G k) s → SndSs G k s
  | .nil, _ => snd_snil
  | .cons s r, h => snd_scons (sndS gk s h.1) (sndSs gk r h.2)
end

/-! ### a def's body keeps its promise -/
/-- what a def with n parameters does -/
def bodyOf (N : Nat) (n : Nat) (b : Ss) : Sm := fun ds M P => ds.length = n ∧ run N b ds M P
theorem start_is {N : List Str} {ds : List D} {vs : List V} (m : MIs G M H) (l : IsL G (cut M H) ds vs) : StIs G M H (L2.start N vs) (ds.map some ++ List.replicate (N.length - ds.length) none) := by
  refine ⟨m, fun i d h => ?_, ?_⟩
  · by_cases hi : i < ds.length
    · rw [List.getElem?_append_left (by simpa using hi), List.getElem?_map] at h
      obtain ⟨e, h1, h2⟩ := Option.map_eq_some_iff.mp h
      cases h2
      obtain ⟨v, h3, h4⟩ := l.get h1
      refine ⟨v, ?_, h4⟩
      unfold L2.start
      rw [List.getElem?_append_left (by rw [List.length_map, ← l.length]; exact hi), List.getElem?_map, h3]
      rfl
    · rw [List.getElem?_append_right (by simpa using hi), List.getElem?_replicate] at h
      split at h <;> cases h
  · unfold L2.start
    rw [List.length_append, List.length_append, List.length_map, List.length_map, List.length_replicate, List.length_replicate, l.length]
theorem fn_by (gk : GOk G) {x qual : Str} {params : Arguments} {body : List Stmt} {scope : Scope} {dvs : List V} {kws : List (Str × V)} {f : Addr} {fd : FuncData} {N ps : List Str}
    (F : FunD G.K x qual params body scope dvs kws f fd) (S : FnScope N ps scope) (b : Ss) (hall : allSs (CallOk G k) (MethOk G k) b) (hc : chkSs ⟨N, scope, fun _ => true⟩ b body = true) :
    FnOk G.P G.w G.K G.mg G.base CX0 (k + 1) f fd ps (spOf G (bodyOf N.length ps.length b)) := by
  refine F.ok S (fun vs H Q E h => ?_) fun cdv A outer s H vs Q E hr h => ?_
  · obtain ⟨ds, M, P, m, l, hs, q⟩ := h
    rw [← l.length]; exact hs.1
  · obtain ⟨ds, M, P, m, l, ⟨_, hs⟩, q⟩ := h
    refine ⟨tSs G b, PSs.nox (sndSs gk b hall (c := ⟨N, scope, fun _ => true⟩) ?_ hc), _, M, _, start_is m l, hs, ?_⟩
    · exact ⟨rfl, rfl, rfl, rfl, rfl, rfl, S.nd, rfl, S.kind, fun _ _ => rfl, rfl, rfl, hr⟩
    · exact ⟨fun ρ' M' σ' H' p r s => q _ _ _ _ p r s.mem rfl, q, fun _ _ _ _ p => p.elim, fun _ _ _ _ p => p.elim⟩
/-- a weaker promise -/
theorem fn_imp {f : Addr} {fd : FuncData} {ps : List Str} {sem sem' : Sm} (F : FnOk G.P G.w G.K G.mg G.base CX0 k f fd ps (spOf G sem)) (h : ∀ ds M P, sem' ds M P → sem ds M P) : FnOk G.P G.w G.K G.mg G.base CX0 k f fd ps (spOf G sem') :=
  F.imp fun vs H Q E ⟨ds, M, P, m, l, hs, q⟩ => ⟨ds, M, P, m, l, h _ _ _ hs, q⟩

/-! ### calls by promises -/
theorem kw_all {pos : Pos} {env : PySem.Env} : ∀ {kws : List Keyword} {ks : List Str}, kws.map (·.arg) = ks.map some →
    (backToKw pos (keywordEach kws env)).all (·.1.isSome) = true ∧ (backToKw pos (keywordEach kws env)).filterMap (·.1) = ks ∧ (backToKw pos (keywordEach kws env)).any (·.1.isNone) = false
  | [], [], _ => ⟨rfl, rfl, rfl⟩
  | [], _ :: _, h => by cases h
  | _ :: _, [], h => by cases h
  | ⟨nm, e, p⟩ :: kws, n :: ks, h => by
    rw [List.map_cons, List.map_cons] at h
    injection h with h1 h2
    have h1 : nm = some n := h1
    subst h1
    obtain ⟨a, b, d⟩ := kw_all (pos := pos) (env := env) h2
    refine ⟨?_, ?_, ?_⟩
    · show (true && (backToKw pos (keywordEach kws env)).all (·.1.isSome)) = true
      rw [a]; rfl
    · show n :: (backToKw pos (keywordEach kws env)).filterMap (·.1) = n :: ks
      rw [b]
    · show (false || (backToKw pos (keywordEach kws env)).any (·.1.isNone)) = false
      rw [d]; rfl
theorem star_any {pos : Pos} {env : PySem.Env} {a : Expr} {as : List Expr} (h : (a :: as).all nst = true) : (backTo pos (starEach (a :: as) env)).any (·.1) = false := star_plain h
theorem fn_at {f : Addr} {fd : FuncData} {ps : List Str} {sp : L2.Sp} {CX : CXT} (g : Good G c k X) {j : Nat} (F : FnOk G.P G.w G.K G.mg G.base CX j f fd ps sp) : FnOk X.prog X.w X.K X.mg X.base CX j f fd ps sp := by
  rw [g.prog, g.w, g.K, g.mg, g.base]; exact F
/-- f(e, ..): all parameters are written, or the default dfl fills up -/
theorem call_pos {f : Addr} {fd : FuncData} {ps : List Str} {sem : Sm} {name : Str} {n : Nat} {dV : List V} {ds : List Value} {dfl : List D} (F : FnOk G.P G.w G.K G.mg G.base CX0 k f fd ps (spOf G sem)) (hm : G.mg name = some (.ref f)) (kp : PySem.W.keepIn G.K (.ref f) = true)
    (hb : Binds G.K fd ps ds) (hd : Vals dV ds) (hdl : ∀ H, IsL G H dfl dV) : CallOk G k ⟨name, n, [], fun xs M P => sem (xs ++ dfl) M P⟩ := fun X c g p pos a as t g1 ha mt hn h0 => by
  refine ⟨fun _ => ?_, fun e => absurd rfl e⟩
  rw [List.all_cons, Bool.and_eq_true] at hn
  refine PE.imp (pe_call (E := E0) (fn_at g F) g.room g1 (by rw [g.mg]; exact hm) (by rw [g.K]; exact kp) (by rw [g.K]; exact hb) hd pass0 ha h0 (star_cons hn.1) (star_plain hn.2)) fun σ H Q h => ?_
  refine mt σ H _ _ (fun vs H1 ⟨_, xs, M, P, m, l, hs, q⟩ => ?_) h
  exact ⟨xs ++ dfl, M, P, m, l.append (hdl _), hs, q⟩
/-- f(e, .., k = v, ..) -/
theorem call_kw {f : Addr} {fd : FuncData} {ps ks : List Str} {sem : Sm} {name : Str} {n : Nat} {dV : List V} {dfl : List D} {gg : List Value → List Value → List Value} (F : FnOk G.P G.w G.K G.mg G.base CX0 k f fd ps (spOf G sem)) (hm : G.mg name = some (.ref f)) (kp : PySem.W.keepIn G.K (.ref f) = true)
    (hb : KBn G.K fd ps n ks gg (fun vs zs => vs ++ zs ++ dV)) (hdl : ∀ H, IsL G H dfl dV) (hne : ks ≠ []) : CallOk G k ⟨name, n, ks, fun xs M P => sem (xs ++ dfl) M P⟩ := fun X c g p pos a as t g1 ha mt hn h0 => by
  refine ⟨fun e => absurd e hne, fun _ kws tk hk mk hkw => ?_⟩
  have hn' := hn
  rw [List.all_cons, Bool.and_eq_true] at hn
  obtain ⟨a1, a2, a3⟩ := kw_all (pos := pos) (env := X.env) hkw
  refine PE.imp (pe_callN (E := E0) (n := n) (ks := ks) (fn_at g F) g.room g1 (by rw [g.mg]; exact hm) (by rw [g.K]; exact kp) (by rw [g.K]; exact hb) pass0 ha hk a1 a2 h0 (star_cons hn.1) (by rw [star_any hn', a3]; rfl)) fun σ H Q h => ?_
  refine mt σ H _ _ (fun vs H1 h1 => mk σ H1 _ _ (fun zs H2 ⟨l1, l2, xs, M, P, m, l, hs, q⟩ => ?_) h1) h
  exact ⟨l1, l2, xs ++ dfl, M, P, m, l.append (hdl _), hs, q⟩
theorem eval_meth {y m : Str} {p ap pos : Pos} {a : Expr} {as : List Expr} {env : PySem.Env} (hn : (a :: as).all nst = true) (h3 : (ap.endLine == pos.line) = true) (h4 : (a :: as).length ≤ 20) :
    eval (.Call (.Attribute (.Name y p) m ap) (a :: as) [] pos) env = (do
      let ov ← eval (.Name y p) env
      standAt ap.atName
      let (f, first) ← holding [ov] (getMethod ov m (do return (← importBound (.Name y p) env).getD true))
      callWith pos f first (backTo pos (starEach (a :: as) env)) (backToKw pos (keywordEach [] env))) := by
  have form : methodCallForm ((a :: as).length + ([] : List Keyword).length) (backTo pos (starEach (a :: as) env)) (backToKw pos (keywordEach [] env)) = true := by
    unfold methodCallForm
    have e1 : (backTo pos (starEach (a :: as) env)).all (fun x => !x.1) = true := by
      have := star_plain (pos := pos) (env := env) hn
      rw [List.any_eq_false] at this
      rw [List.all_eq_true]
      intro x hx
      simpa using this x hx
    rw [e1]
    show (true && true && decide ((a :: as).length + 0 + 0 < 30)) = true
    simp only [Bool.true_and, decide_eq_true_eq]
    omega
  have hp : methodCallPos true (.Name y p) env ap pos = pure pos := by
    unfold methodCallPos
    rw [h3]
    rfl
  show (do
    let ov ← eval (.Name y p) env
    standAt ap.atName
    methodCall (.Name y p) m ap pos env ov ((a :: as).length + ([] : List Keyword).length) (backTo pos (starEach (a :: as) env)) (backToKw pos (keywordEach [] env))) = _
  unfold methodCall
  rw [form, hp]
  rfl
/-- o.m(e, ..) -/
theorem meth_ok {f : Addr} {fd : FuncData} {ps : List Str} {sem : Sm} {name : Str} {n : Nat} {cl : Nat} (gk : GOk G) (hcl : cl < 11) (F : FnOk G.P G.w G.K G.mg G.base CX0 k f fd ps (spOf G sem)) (hm : Meth G.K (G.ca cl) name f) (hb : Binds G.K fd ps [])
    (hno : (cn cl).contains name = false) : MethOk G k cl ⟨name, n, [], sem⟩ := fun X c g y p ap pos to a as t ho mo ha mt hn h3 h4 => by
  have ht := eval_meth (y := y) (p := p) (m := name) (env := X.env) hn h3 h4
  rw [List.all_cons, Bool.and_eq_true] at hn
  refine PE.imp (pe_meth (E := E0) (C := G.ca cl) ho (by rw [g.K]; exact gk.cls cl hcl) (by rw [g.K]; exact hm) (fn_at g F) g.room (by rw [g.K]; exact hb) .nil pass0 ha (star_cons hn.1) (star_plain hn.2) ht) fun σ H Q h => ?_
  refine mo σ H _ _ (fun x H1 ⟨⟨b, dx, vs, e1, e2⟩, h1⟩ => ⟨b, dx, _, e1, e2, ?_, mt σ H1 _ _ (fun ws H2 h2 => by rw [List.append_nil]; exact h2) h1⟩) h
  clear e2
  have key : ∀ (ns : List Str) (vs : List V), ns.contains name = false → (ns.zip vs).lookup name = none := by
    intro ns
    induction ns with
    | nil => intro vs _; rfl
    | cons n ns ih =>
      intro vs hc
      cases vs with
      | nil => rfl
      | cons v vs =>
        rw [List.contains_cons, Bool.or_eq_false_iff] at hc
        rw [List.zip_cons_cons, List.lookup_cons, hc.1]
        exact ih vs hc.2
  exact key _ _ hno
/-- what C(..) wants, from what its __init__ wants -/
def semMake (cl : Nat) (sem : Sm) : Sm := fun ds M P => ∀ a, M a = none → sem (.adr a :: ds) (M.set a (.ins cl [])) fun d M' => d = .non ∧ ∃ e, M' a = some e ∧ P e (M'.del a)
theorem make_wp {cl : Nat} {sem : Sm} {vs : List V} {H : Hp} {Q : VK} (h : spOf G (semMake cl sem) vs H Q E0) : ∀ x dx, H x = none → H dx = none → dx ≠ x →
    spOf G sem (.ref x :: vs) (upd (upd H dx (.own x)) x (.ins (G.ca cl) dx [])) (fun v H2 => v = .non ∧ Q (.ref x) H2) E0 := fun x dx hx hdx hne => by
  obtain ⟨ds, M, P, m, l, hs, q⟩ := h
  have ex1 : Ex H (upd H dx (.own x)) := Evl.Ex.new hdx
  have m1 := m.mono ex1
  have hx1 : (upd H dx (.own x)) x = none := by rw [upd_ne (Ne.symm hne)]; exact hx
  have ec : cut (M.set x (.ins cl [])) (upd (upd H dx (.own x)) x (.ins (G.ca cl) dx [])) = cut M (upd H dx (.own x)) := cut_set.trans (cut_setn hx1)
  have r1 : Rch M H (M.set x (.ins cl [])) (upd (upd H dx (.own x)) x (.ins (G.ca cl) dx [])) := by
    unfold Rch
    rw [ec]
    exact cut_mono ex1
  refine ⟨.adr x :: ds, M.set x (.ins cl []), _, m1.newI hx1, IsL.cons rfl (by rw [ec]; exact l.mono (cut_mono ex1)), hs x (m.free hx), fun d M' v H' ⟨ed, e, he, hP⟩ r m' i => ?_⟩
  subst ed
  refine ⟨i, q _ _ _ _ hP ((r1.trans r).trans cut_del) (m'.del x) ?_⟩
  rcases m' x e he with ⟨xs, vs', rfl, _⟩ | ⟨cc, ds', dx', vs', rfl, _⟩
  · exact m'.freeze he
  · exact m'.freezeI he
/-- C(e, ..) -/
theorem make_pos {f : Addr} {fd : FuncData} {ps : List Str} {sem : Sm} {name : Str} {n : Nat} {cl : Nat} (F : FnOk G.P G.w G.K G.mg G.base CX0 k f fd ps (spOf G sem)) (mk : Mk G.K (G.ca cl) f) (hm : G.mg name = some (.ref (G.ca cl))) (hb : Binds G.K fd ps []) :
    CallOk G (k + 1) ⟨name, n, [], semMake cl sem⟩ := fun X c g p pos a as t g1 ha mt hn h0 => by
  refine ⟨fun _ => ?_, fun e => absurd rfl e⟩
  rw [List.all_cons, Bool.and_eq_true] at hn
  refine PE.imp (pe_make (E := E0) (C := G.ca cl) (by rw [g.K]; exact mk) (fn_at g F) g.room g1 (by rw [g.mg]; exact hm) (by rw [g.K]; exact hb) .nil pass0 ha h0 (star_cons hn.1) (star_plain hn.2)) fun σ H Q h => ?_
  refine mt σ H _ _ (fun vs H1 ⟨_, h1⟩ x dx hx hdx hne => ?_) h
  rw [List.append_nil]
  exact make_wp h1 x dx hx hdx hne
/-- C(e, .., k = v, ..) -/
theorem make_kw {f : Addr} {fd : FuncData} {ps ks : List Str} {sem : Sm} {name : Str} {n : Nat} {cl : Nat} {gg : List Value → List Value → List Value} (F : FnOk G.P G.w G.K G.mg G.base CX0 k f fd ps (spOf G sem)) (mk : Mk G.K (G.ca cl) f) (hm : G.mg name = some (.ref (G.ca cl)))
    (hb : KBn G.K fd ps (n + 1) ks gg (fun vs zs => vs ++ zs)) (hne : ks ≠ []) : CallOk G (k + 1) ⟨name, n, ks, semMake cl sem⟩ := fun X c g p pos a as t g1 ha mt hn h0 => by
  refine ⟨fun e => absurd e hne, fun _ kws tk hk mkk hkw => ?_⟩
  have hn' := hn
  rw [List.all_cons, Bool.and_eq_true] at hn
  obtain ⟨a1, a2, a3⟩ := kw_all (pos := pos) (env := X.env) hkw
  refine PE.imp (pe_makeK (E := E0) (n := n) (ks := ks) (C := G.ca cl) (by rw [g.K]; exact mk) (fn_at g F) g.room g1 (by rw [g.mg]; exact hm) (by rw [g.K]; exact hb) pass0 ha hk a1 a2 h0 (star_cons hn.1) (by rw [star_any hn', a3]; rfl)) fun σ H Q h => ?_
  refine mt σ H _ _ (fun vs H1 h1 => mkk σ H1 _ _ (fun zs H2 ⟨l1, l2, h2⟩ => ⟨l1, l2, fun x dx hx hdx hne => make_wp h2 x dx hx hdx hne⟩) h1) h
/-- a weaker promise of a call -/
theorem CallOk.imp {f : Ent} {sem : Sm} (h : CallOk G k f) (hi : ∀ ds M P, ds.length = f.n + f.kws.length → sem ds M P → f.sem ds M P) : CallOk G k ⟨f.name, f.n, f.kws, sem⟩ := fun X c g p pos a as t g1 ha mt hn h0 => by
  obtain ⟨h1, h2⟩ := h X c g p pos a as t g1 ha mt hn h0
  refine ⟨fun e => PE.imp (h1 e) fun σ H Q w => mt σ H _ _ (fun vs H1 ⟨l0, xs, M, P, m, l, hs, q⟩ => ⟨l0, xs, M, P, m, l, hi _ _ _ ?_ hs, q⟩) w, fun e kws tk hk mk hkw => PE.imp (h2 e kws tk hk mk hkw) fun σ H Q w => mt σ H _ _ (fun vs H1 w1 => mk σ H1 _ _ (fun zs H2 ⟨l1, l2, xs, M, P, m, l, hs, q⟩ => ⟨l1, l2, xs, M, P, m, l, hi _ _ _ ?_ hs, q⟩) w1) w⟩
  · have e : f.kws = [] := e
    rw [l.length, l0, e]; rfl
  · rw [l.length, List.length_append, l1, l2]
theorem Room.less {A : Around} {j : Nat} (r : Room k A) (h : j ≤ k) : Room j A := r.mono h
theorem CallOk.mono {f : Ent} {j : Nat} (h : CallOk G j f) (hj : j ≤ k) : CallOk G k f := fun X c g => h X c ⟨g.prog, g.w, g.K, g.mg, g.base, g.N, g.nd, g.sc, g.fk, g.fb, g.calm, g.xe, g.room.mono hj⟩
theorem MethOk.mono {f : Ent} {j cl : Nat} (h : MethOk G j cl f) (hj : j ≤ k) : MethOk G k cl f := fun X c g => h X c ⟨g.prog, g.w, g.K, g.mg, g.base, g.N, g.nd, g.sc, g.fk, g.fb, g.calm, g.xe, g.room.mono hj⟩
end
end Sp
end
section
set_option Elab.async false
set_option linter.all false
set_option maxRecDepth 100000
/-! Rules for reading wishes: each form's wish as an equation, loops and comprehensions over encoded lists. -/
namespace Sp
open PySem L2

def absI (i : Int) : Int := if i < 0 then -i else i
def max3 (i j k : Int) : Int := max (max i j) k
def max5 (i j k l m : Int) : Int := max (max (max (max i j) k) l) m
def rd (n : Int) : Int := ((Float64.isqrt n.toNat : Nat) : Int)
def accS {α : Type} (f : α → Int) (L : List α) (i : Nat) : Int := ((L.take i).map f).sum
theorem acc0 {α : Type} {f : α → Int} {L : List α} : accS f L 0 = 0 := by simp [accS]
theorem accN {α : Type} {f : α → Int} {L : List α} : accS f L L.length = (L.map f).sum := by simp [accS]
theorem acc1 {α : Type} {f : α → Int} {L : List α} {i : Nat} {a : α} (h : L[i]? = some a) : accS f L (i + 1) = accS f L i + f a := by
  unfold accS; rw [List.take_add_one, h]; simp
variable {ρ : Rho} {M : Mem} {P : D → Mem → Prop} {K : Kn}
/-- what a comprehension wants -/
def lcD (elt : E) (t : T) (c : E) (m : Bool) (ρ : Rho) (P : D → Mem → Prop) (xs : List D) (M1 : Mem) : Prop := xs.length ≤ 100000 ∧ ∃ ys : List (Option D), ys.length = xs.length ∧
      (∀ (Ma : Mem) (i : Nat) (x : D), M1.le Ma → xs[i]? = some x → bindT t x (wipeR ρ t.slots) fun ρ2 => wpE c ρ2 Ma fun z M2 => M2 = Ma ∧ ∃ k, z = .bl k ∧
        if k = true then wpE elt ρ2 Ma fun y M3 => M3 = Ma ∧ ys[i]? = some (some y) else ys[i]? = some none) ∧
      if m = true then ∀ a, M1 a = none → P (.adr a) (M1.set a (.lst (ys.filterMap id))) else P (.lst (ys.filterMap id)) M1
/-- what a loop wants -/
def forD (t : T) (b : Ss) (K : Kn) (ρ : Rho) (xs : List D) (M1 : Mem) : Prop := ∃ I : Nat → Rho → Mem → Prop, I 0 ρ M1 ∧
      (∀ (i : Nat) (x : D) (ρ' : Rho) (M' : Mem), xs[i]? = some x → I i ρ' M' → bindT t x ρ' fun ρ2 => wpSs b ρ2 M' { nx := I (i + 1), ct := I (i + 1), bk := K.nx, rt := K.rt }) ∧
      ∀ ρ' M', I xs.length ρ' M' → K.nx ρ' M'
/-- what a while loop wants -/
def whilD (c : E) (b : Ss) (K : Kn) (ρ : Rho) (M : Mem) : Prop := ∃ I : Nat → Rho → Mem → Prop, (∃ m, I m ρ M) ∧ ∀ m ρ' M', I m ρ' M' → wpE c ρ' M' fun x M1 => ∃ k, truD M1 x = some k ∧
      if k = true then wpSs b ρ' M1 { nx := fun ρ2 M2 => ∃ m', m' < m ∧ I m' ρ2 M2, ct := fun ρ2 M2 => ∃ m', m' < m ∧ I m' ρ2 M2, bk := K.nx, rt := K.rt } else K.nx ρ' M1

@[simp] theorem w_var {i : Nat} : wpE (.var i) ρ M P = ∃ d, ρ[i]? = some (some d) ∧ P d M := rfl
@[simp] theorem w_int {i : Int} : wpE (.int i) ρ M P = P (.int i) M := rfl
@[simp] theorem w_str {x : Str} : wpE (.str x) ρ M P = P (.str x) M := rfl
@[simp] theorem w_non : wpE .non ρ M P = P .non M := rfl
@[simp] theorem w_bl {b : Bool} : wpE (.bl b) ρ M P = P (.bl b) M := rfl
@[simp] theorem w_glob {g : Nat} : wpE (.glob g) ρ M P = P (gval g) M := rfl
@[simp] theorem w_op {o a b} : wpE (.op o a b) ρ M P = wpE a ρ M fun x M1 => wpE b ρ M1 fun y M2 => opD o x y M2 P := rfl
@[simp] theorem w_neg {a} : wpE (.neg a) ρ M P = wpE a ρ M fun x M1 => ∃ i, x = .int i ∧ P (.int (-i)) M1 := rfl
@[simp] theorem w_cmp {c a b} : wpE (.cmp c a b) ρ M P = wpE a ρ M fun x M1 => wpE b ρ M1 fun y M2 => cmpD c x y M2 fun k => P (.bl k) M2 := rfl
@[simp] theorem w_isN {a} : wpE (.isN a) ρ M P = wpE a ρ M fun x M1 => P (.bl (noneD x)) M1 := rfl
@[simp] theorem w_notN {a} : wpE (.notN a) ρ M P = wpE a ρ M fun x M1 => P (.bl (!noneD x)) M1 := rfl
@[simp] theorem w_ch2 {c c' a b d} : wpE (.ch2 c c' a b d) ρ M P = wpE a ρ M fun x M1 => wpE b ρ M1 fun y M2 => cmpD c x y M2 fun k => if k = true then wpE d ρ M2 fun z M3 => cmpD c' y z M3 fun k' => P (.bl k') M3 else P (.bl false) M2 := rfl
@[simp] theorem w_ch3 {c c' c'' a b d e} : wpE (.ch3 c c' c'' a b d e) ρ M P = wpE a ρ M fun x M1 => wpE b ρ M1 fun y M2 => cmpD c x y M2 fun k => if k = true then wpE d ρ M2 fun z M3 => cmpD c' y z M3 fun k' =>
      if k' = true then wpE e ρ M3 fun u M4 => cmpD c'' z u M4 fun k'' => P (.bl k'') M4 else P (.bl false) M3 else P (.bl false) M2 := rfl
@[simp] theorem w_and {a b} : wpE (.and a b) ρ M P = wpE a ρ M fun x M1 => ∃ k, x = .bl k ∧ if k = true then wpE b ρ M1 P else P (.bl false) M1 := rfl
@[simp] theorem w_or {a b} : wpE (.or a b) ρ M P = wpE a ρ M fun x M1 => ∃ k, x = .bl k ∧ if k = true then P (.bl true) M1 else wpE b ρ M1 P := rfl
@[simp] theorem w_not {a} : wpE (.not a) ρ M P = wpE a ρ M fun x M1 => ∃ k, truD M1 x = some k ∧ P (.bl (!k)) M1 := rfl
@[simp] theorem w_ife {c a b} : wpE (.ife c a b) ρ M P = wpE c ρ M fun x M1 => ∃ k, x = .bl k ∧ if k = true then wpE a ρ M1 P else wpE b ρ M1 P := rfl
def attD (x : D) (f : Nat) (M1 : Mem) (P : D → Mem → Prop) : Prop := ∃ c ds, x = .ins c ds ∧ ∃ p, fpos c f = some p ∧ ∃ d, ds[p]? = some d ∧ P d M1
@[simp] theorem att_ins {c : Nat} {ds : List D} {f : Nat} : attD (.ins c ds) f M P ↔ ∃ p, fpos c f = some p ∧ ∃ d, ds[p]? = some d ∧ P d M := by
  constructor
  · rintro ⟨c', ds', h, r⟩
    cases h; exact r
  · intro h; exact ⟨c, ds, rfl, h⟩
@[simp] theorem w_attr {a f} : wpE (.attr a f) ρ M P = wpE a ρ M fun x M1 => attD x f M1 P := rfl
@[simp] theorem w_idx {a i} : wpE (.idx a i) ρ M P = wpE a ρ M fun x M1 => wpE i ρ M1 fun y M2 => ∃ k, y = .int k ∧ ∃ xs, itemsOf M2 x = some xs ∧ ∃ d, atI xs k = some d ∧ P d M2 := rfl
@[simp] theorem w_slLo {a lo} : wpE (.slLo a lo) ρ M P = wpE a ρ M fun x M1 => wpE lo ρ M1 fun y M2 => ∃ k, y = .int k ∧ slD M2 x (some k) none fun d => P d M2 := rfl
@[simp] theorem w_slHi {a hi} : wpE (.slHi a hi) ρ M P = wpE a ρ M fun x M1 => wpE hi ρ M1 fun y M2 => ∃ k, y = .int k ∧ slD M2 x none (some k) fun d => P d M2 := rfl
@[simp] theorem w_slB {a lo hi} : wpE (.slB a lo hi) ρ M P = wpE a ρ M fun x M1 => wpE lo ρ M1 fun y M2 => ∃ k, y = .int k ∧ wpE hi ρ M2 fun z M3 => ∃ l, z = .int l ∧ slD M3 x (some k) (some l) fun d => P d M3 := rfl
@[simp] theorem w_rev {a} : wpE (.rev a) ρ M P = wpE a ρ M fun x M1 => ∃ xs, lstOf M1 x = some xs ∧ P (.lst xs.reverse) M1 := rfl
@[simp] theorem w_lst {es} : wpE (.lst es) ρ M P = wpEs es ρ M fun ds M1 => P (.lst ds) M1 := rfl
@[simp] theorem w_lstM {es} : wpE (.lstM es) ρ M P = wpEs es ρ M fun ds M1 => ∀ a, M1 a = none → P (.adr a) (M1.set a (.lst ds)) := rfl
@[simp] theorem w_tup {es} : wpE (.tup es) ρ M P = wpEs es ρ M fun ds M1 => P (.tup ds) M1 := rfl
@[simp] theorem w_repM {x n} : wpE (.repM x n) ρ M P = wpE x ρ M fun d M1 => wpE n ρ M1 fun y M2 => ∃ k : Nat, y = .int (k : Int) ∧ k ≤ 100000 ∧ ∀ a, M2 a = none → P (.adr a) (M2.set a (.lst (List.replicate k d))) := rfl
@[simp] theorem w_lc {elt t it c m} : wpE (.lc elt t it c m) ρ M P = wpIt it ρ M (lcD elt t c m ρ P) := rfl
@[simp] theorem w_call {f es ks} : wpE (.call f es ks) ρ M P = wpEs es ρ M fun ds M1 => wpEs ks ρ M1 fun zs M2 => f.sem (ds ++ zs) M2 P := rfl
@[simp] theorem w_meth {c f o es} : wpE (.meth c f o es) ρ M P = wpE o ρ M fun x M1 => (∃ ds, x = .ins c ds) ∧ wpEs es ρ M1 fun ds M2 => f.sem (x :: ds) M2 P := rfl
@[simp] theorem w_bi {b es} : wpE (.bi b es) ρ M P = wpEs es ρ M fun ds M1 => biD b ds M1 P := rfl
@[simp] theorem w_isP {a} : wpE (.isP a) ρ M P = wpE a ρ M fun x M1 => ∃ k, paperD x = some k ∧ P (.bl k) M1 := rfl
@[simp] theorem w_inP {a} : wpE (.inP a) ρ M P = wpE a ρ M fun x M1 => ∃ s, x = .str s ∧ s ∈ kinds4 ∧ P (.bl true) M1 := rfl
@[simp] theorem w_pop {l} : wpE (.pop l) ρ M P = wpE l ρ M fun x M1 => ∃ a xs d, x = .adr a ∧ M1 a = some (.lst xs) ∧ xs[xs.length - 1]? = some d ∧ P d (M1.set a (.lst xs.dropLast)) := rfl
@[simp] theorem w_frz {e} : wpE (.frz e) ρ M P = wpE e ρ M fun x M1 => ∃ a d, x = .adr a ∧ M1 a = some d ∧ P d (M1.del a) := rfl
@[simp] theorem w_nil {R : List D → Mem → Prop} : wpEs .nil ρ M R = R [] M := rfl
@[simp] theorem w_cons {e r} {R : List D → Mem → Prop} : wpEs (.cons e r) ρ M R = wpE e ρ M fun d M1 => wpEs r ρ M1 fun ds M2 => R (d :: ds) M2 := rfl
@[simp] theorem w_seq {e} {R : List D → Mem → Prop} : wpIt (.seq e) ρ M R = wpE e ρ M fun x M1 => ∃ xs, walked x = some xs ∧ R xs M1 := rfl
@[simp] theorem w_seqM {e} {R : List D → Mem → Prop} : wpIt (.seqM e) ρ M R = wpE e ρ M fun x M1 => ∃ a xs, x = .adr a ∧ M1 a = some (.lst xs) ∧ R xs M1 := rfl
@[simp] theorem w_rng1 {e} {R : List D → Mem → Prop} : wpIt (.rng1 e) ρ M R = wpE e ρ M fun x M1 => ∃ n : Nat, x = .int (n : Int) ∧ n < 2 ^ 62 ∧ R ((List.range n).map fun (i : Nat) => D.int (i : Int)) M1 := rfl
@[simp] theorem w_rng2 {a b} {R : List D → Mem → Prop} : wpIt (.rng2 a b) ρ M R = wpE a ρ M fun x M1 => wpE b ρ M1 fun y M2 => ∃ i j : Int, x = .int i ∧ y = .int j ∧ (-(2 ^ 62) ≤ i ∧ i < 2 ^ 62 ∧ -(2 ^ 62) ≤ j ∧ j < 2 ^ 62) ∧
      R ((List.range (j - i).toNat).map fun (k : Nat) => D.int (i + (k : Int))) M2 := rfl
@[simp] theorem w_zip {a b} {R : List D → Mem → Prop} : wpIt (.zip a b) ρ M R = wpE a ρ M fun x M1 => wpE b ρ M1 fun y M2 => ∃ xs ys, walked x = some xs ∧ walked y = some ys ∧ zipOk x y = true ∧ R (List.zipWith (fun u v => .tup [u, v]) xs ys) M2 := rfl
@[simp] theorem w_enum {e} {R : List D → Mem → Prop} : wpIt (.enum e) ρ M R = wpE e ρ M fun x M1 => ∃ xs, walked x = some xs ∧ isStr x = false ∧ R (List.zipWith (fun (i : Nat) u => D.tup [.int (i : Int), u]) (List.range xs.length) xs) M1 := rfl
@[simp] theorem w_asg {i e} : wpS (.asg i e) ρ M K = wpE e ρ M fun d M1 => K.nx (ρ.set i (some d)) M1 := rfl
@[simp] theorem w_asgT {is e} : wpS (.asgT is e) ρ M K = wpE e ρ M fun d M1 => ∃ xs, d = .tup xs ∧ xs.length = is.length ∧ K.nx (setAll is xs ρ) M1 := rfl
@[simp] theorem w_asgX {a i e} : wpS (.asgX a i e) ρ M K = wpE e ρ M fun d M1 => wpE a ρ M1 fun x M2 => wpE i ρ M2 fun y M3 => ∃ p xs k j, x = .adr p ∧ M3 p = some (.lst xs) ∧ y = .int k ∧ ixN xs.length k = some j ∧ K.nx ρ (M3.set p (.lst (xs.set j d))) := rfl
@[simp] theorem w_fld {a f e} : wpS (.fld a f e) ρ M K = wpE e ρ M fun d M1 => wpE a ρ M1 fun x M2 => ∃ p c ds, x = .adr p ∧ M2 p = some (.ins c ds) ∧ fpos c f = some ds.length ∧ K.nx ρ (M2.set p (.ins c (ds ++ [d]))) := rfl
@[simp] theorem w_aug {i e} : wpS (.aug i e) ρ M K = ∃ n : Int, ρ[i]? = some (some (.int n)) ∧ wpE e ρ M fun d M1 => ∃ m : Int, d = .int m ∧ K.nx (ρ.set i (some (.int (n + m)))) M1 := rfl
@[simp] theorem w_app {l e} : wpS (.app l e) ρ M K = wpE l ρ M fun x M1 => (∃ a xs, x = .adr a ∧ M1 a = some (.lst xs)) ∧ wpE e ρ M1 fun d M2 => ∃ a xs, x = .adr a ∧ M2 a = some (.lst xs) ∧ xs.length < 100000 ∧ K.nx ρ (M2.set a (.lst (xs ++ [d]))) := rfl
@[simp] theorem w_exp {e} : wpS (.exp e) ρ M K = wpE e ρ M fun _ M1 => K.nx ρ M1 := rfl
@[simp] theorem w_iff {c a b} : wpS (.iff c a b) ρ M K = wpE c ρ M fun x M1 => ∃ k, truD M1 x = some k ∧ if k = true then wpSs a ρ M1 K else wpSs b ρ M1 K := rfl
@[simp] theorem w_forr {t it b} : wpS (.forr t it b) ρ M K = wpIt it ρ M (forD t b K ρ) := rfl
@[simp] theorem w_whil {c b} : wpS (.whil c b) ρ M K = whilD c b K ρ M := rfl
@[simp] theorem w_ret {e} : wpS (.ret e) ρ M K = wpE e ρ M K.rt := rfl
@[simp] theorem w_brk : wpS .brk ρ M K = K.bk ρ M := rfl
@[simp] theorem w_nev : wpS .nev ρ M K = False := rfl
@[simp] theorem w_snil : wpSs .nil ρ M K = K.nx ρ M := rfl
@[simp] theorem w_scons {s r} : wpSs (.cons s r) ρ M K = wpS s ρ M { K with nx := fun ρ1 M1 => wpSs r ρ1 M1 K } := rfl

@[simp] theorem op_add {i j : Int} : opD .add (.int i) (.int j) M P = P (.int (i + j)) M := rfl
@[simp] theorem op_sub {i j : Int} : opD .sub (.int i) (.int j) M P = P (.int (i - j)) M := rfl
@[simp] theorem op_mul {i j : Int} : opD .mul (.int i) (.int j) M P = (CMul i j ∧ P (.int (i * j)) M) := rfl
@[simp] theorem op_fdiv {i j : Int} : opD .fdiv (.int i) (.int j) M P = ((0 < j ∧ j < 1073741824) ∧ P (.int (i / j)) M) := rfl
@[simp] theorem op_mod {i j : Int} : opD .mod (.int i) (.int j) M P = (0 < j ∧ P (.int (i % j)) M) := rfl
@[simp] theorem op_addT {xs ys : List D} : opD .add (.tup xs) (.tup ys) M P = (xs.length + ys.length ≤ 100000 ∧ P (.tup (xs ++ ys)) M) := rfl
@[simp] theorem op_addL {xs ys : List D} : opD .add (.lst xs) (.lst ys) M P = (xs.length + ys.length ≤ 100000 ∧ P (.lst (xs ++ ys)) M) := rfl
variable {B : Bool → Prop}
@[simp] theorem c_lt {i j : Int} : cmpD .lt (.int i) (.int j) M B = B (decide (i < j)) := rfl
@[simp] theorem c_le {i j : Int} : cmpD .le (.int i) (.int j) M B = B (decide (i ≤ j)) := rfl
@[simp] theorem c_gt {i j : Int} : cmpD .gt (.int i) (.int j) M B = B (decide (j < i)) := rfl
@[simp] theorem c_ge {i j : Int} : cmpD .ge (.int i) (.int j) M B = B (decide (j ≤ i)) := rfl
@[simp] theorem c_eqI {i j : Int} : cmpD .eq (.int i) (.int j) M B = B (decide (i = j)) := by simp [cmpD, scaD, eqD]
@[simp] theorem c_neI {i j : Int} : cmpD .ne (.int i) (.int j) M B = B (!decide (i = j)) := by simp [cmpD, scaD, eqD]
@[simp] theorem c_eqS {i j : Str} : cmpD .eq (.str i) (.str j) M B = B (decide (i = j)) := by simp [cmpD, scaD, eqD]
@[simp] theorem c_neS {i j : Str} : cmpD .ne (.str i) (.str j) M B = B (!decide (i = j)) := by simp [cmpD, scaD, eqD]
@[simp] theorem c_neB {i j : Bool} : cmpD .ne (.bl i) (.bl j) M B = B (!decide (i = j)) := by simp [cmpD, scaD, eqD]
@[simp] theorem c_inS {i j : Str} : cmpD .isin (.str i) (.str j) M B = B (inStr i j) := rfl
theorem all_flat_str : ∀ xs : List Str, (xs.map D.str).all flatD = true
  | [] => rfl
  | x :: xs => by rw [List.map_cons, List.all_cons, all_flat_str xs]; rfl
theorem inD_str (x : Str) : ∀ xs : List Str, inD (.str x) (xs.map D.str) = decide (x ∈ xs)
  | [] => by simp [inD]
  | y :: xs => by
    have := inD_str x xs
    unfold inD at this ⊢
    rw [List.map_cons, List.any_cons, this]
    simp only [eqD]
    by_cases e : y = x
    · subst e; simp
    · have e' : x ≠ y := fun h => e h.symm
      simp [e, e']
theorem c_isin {x : Str} {d : D} {xs : List Str} (h : itemsOf M d = some (xs.map D.str)) (hd : ∀ ns, d ≠ .scr ns) (hs : ∀ s, d ≠ .str s) (hB : B (decide (x ∈ xs))) : cmpD .isin (.str x) d M B := by
  have : ∃ ys, itemsOf M d = some ys ∧ flatD (.str x) = true ∧ ys.all flatD = true ∧ (∀ ns, d ≠ .scr ns) ∧ B (inD (.str x) ys) := ⟨_, h, rfl, all_flat_str xs, hd, by rw [inD_str]; exact hB⟩
  cases d <;> first | exact this | exact absurd rfl (hs _)
theorem c_notin {x : Str} {d : D} {xs : List Str} (h : itemsOf M d = some (xs.map D.str)) (hd : ∀ ns, d ≠ .scr ns) (hB : B (!decide (x ∈ xs))) : cmpD .notin (.str x) d M B := by
  have : ∃ ys, itemsOf M d = some ys ∧ flatD (.str x) = true ∧ ys.all flatD = true ∧ (∀ ns, d ≠ .scr ns) ∧ B (!inD (.str x) ys) := ⟨_, h, rfl, all_flat_str xs, hd, by rw [inD_str]; exact hB⟩
  cases d <;> exact this

@[simp] theorem t_bl {b : Bool} : truD M (.bl b) = some b := rfl
@[simp] theorem t_non : truD M .non = some false := rfl
@[simp] theorem t_tup {xs : List D} : truD M (.tup xs) = some (!xs.isEmpty) := rfl
@[simp] theorem t_lst {xs : List D} : truD M (.lst xs) = some (!xs.isEmpty) := rfl
theorem t_adr {a : Addr} {xs : List D} (h : M a = some (.lst xs)) : truD M (.adr a) = some (!xs.isEmpty) := by simp [truD, lstOf, h]
@[simp] theorem n_non : noneD .non = true := rfl
@[simp] theorem n_bl {b : Bool} : noneD (.bl b) = false := rfl
@[simp] theorem n_int {b : Int} : noneD (.int b) = false := rfl
@[simp] theorem n_str {b : Str} : noneD (.str b) = false := rfl
@[simp] theorem n_tup {b : List D} : noneD (.tup b) = false := rfl
@[simp] theorem n_lst {b : List D} : noneD (.lst b) = false := rfl
@[simp] theorem n_ins {c : Nat} {b : List D} : noneD (.ins c b) = false := rfl
@[simp] theorem i_tup {xs : List D} : itemsOf M (.tup xs) = some xs := rfl
@[simp] theorem i_lst {xs : List D} : itemsOf M (.lst xs) = some xs := rfl
@[simp] theorem i_scr {xs : List Int} : itemsOf M (.scr xs) = some (xs.map D.int) := rfl
theorem i_adr {a : Addr} {xs : List D} (h : M a = some (.lst xs)) : itemsOf M (.adr a) = some xs := by simp [itemsOf, lstOf, h]
@[simp] theorem l_lst {xs : List D} : lstOf M (.lst xs) = some xs := rfl
theorem l_adr {a : Addr} {xs : List D} (h : M a = some (.lst xs)) : lstOf M (.adr a) = some xs := by simp [lstOf, h]
@[simp] theorem k_lst {xs : List D} : walked (.lst xs) = some xs := rfl
@[simp] theorem k_tup {xs : List D} : walked (.tup xs) = some xs := rfl
@[simp] theorem z_ll {a b : List D} : zipOk (.lst a) (.lst b) = true := rfl
@[simp] theorem z_tt {a b : List D} : zipOk (.tup a) (.tup b) = true := rfl
@[simp] theorem z_lt {a b : List D} : zipOk (.lst a) (.tup b) = true := rfl
@[simp] theorem s_lst {a : List D} : isStr (.lst a) = false := rfl
@[simp] theorem s_tup {a : List D} : isStr (.tup a) = false := rfl
@[simp] theorem sl_tup {xs : List D} {lo hi : Option Int} {R : D → Prop} : slD M (.tup xs) lo hi R = R (.tup (cutA xs lo hi)) := rfl
@[simp] theorem sl_lst {xs : List D} {lo hi : Option Int} {R : D → Prop} : slD M (.lst xs) lo hi R = R (.lst (cutA xs lo hi)) := by simp [slD, lstOf]
@[simp] theorem b_one {i : Nat} {d : D} {R : Rho → Prop} : bindT (.one i) d ρ R = R (ρ.set i (some d)) := rfl
@[simp] theorem b_tup {is : List Nat} {d : D} {R : Rho → Prop} : bindT (.tup is) d ρ R = ∃ xs, d = .tup xs ∧ xs.length = is.length ∧ R (setAll is xs ρ) := rfl
@[simp] theorem T_one {i : Nat} : T.slots (.one i) = [i] := rfl
@[simp] theorem T_tup {is : List Nat} : T.slots (.tup is) = is := rfl
@[simp] theorem wipe0 : wipeR ρ [] = ρ := rfl
@[simp] theorem wipe1 {v : Nat} {vs : List Nat} : wipeR ρ (v :: vs) = (wipeR ρ vs).set v none := rfl
@[simp] theorem sa0 : setAll [] [] ρ = ρ := rfl
@[simp] theorem sa1 {i : Nat} {is : List Nat} {d : D} {ds : List D} : setAll (i :: is) (d :: ds) ρ = setAll is ds (ρ.set i (some d)) := rfl

@[simp] theorem bi_max2 {i j : Int} : biD .max [.int i, .int j] M P = P (.int (max i j)) M := rfl
@[simp] theorem bi_max3 {i j k : Int} : biD .max [.int i, .int j, .int k] M P = P (.int (max3 i j k)) M := rfl
@[simp] theorem bi_max5 {i j k l m : Int} : biD .max [.int i, .int j, .int k, .int l, .int m] M P = P (.int (max5 i j k l m)) M := rfl
@[simp] theorem bi_min2 {i j : Int} : biD .min [.int i, .int j] M P = P (.int (min i j)) M := rfl
@[simp] theorem bi_abs {i : Int} : biD .abs [.int i] M P = P (.int (absI i)) M := rfl
@[simp] theorem bi_intI {i : Int} : biD .int [.int i] M P = P (.int i) M := rfl
@[simp] theorem bi_intB {k : Bool} : biD .int [.bl k] M P = P (.int (if k then 1 else 0)) M := rfl
@[simp] theorem bi_tupT {xs : List D} : biD .tuple [.tup xs] M P = P (.tup xs) M := rfl
@[simp] theorem bi_tupL {xs : List D} : biD .tuple [.lst xs] M P = P (.tup xs) M := by simp [biD]
theorem bi_tupA {a : Addr} {xs : List D} (h : M a = some (.lst xs)) : biD .tuple [.adr a] M P = P (.tup xs) M := by simp [biD, lstOf, h]
@[simp] theorem bi_isqrt {i : Int} : biD .isqrt [.int i] M P = ((0 ≤ i ∧ i < 2 ^ 64) ∧ P (.int (rd i)) M) := rfl
@[simp] theorem bi_lenT {xs : List D} : biD .len [.tup xs] M P = P (.int xs.length) M := by simp [biD]
@[simp] theorem bi_lenL {xs : List D} : biD .len [.lst xs] M P = P (.int xs.length) M := by simp [biD]
@[simp] theorem bi_lenR {xs : List Int} : biD .len [.scr xs] M P = P (.int xs.length) M := by simp [biD]
theorem bi_lenA {a : Addr} {xs : List D} (h : M a = some (.lst xs)) : biD .len [.adr a] M P = P (.int xs.length) M := by simp [biD, itemsOf, lstOf, h]
theorem bi_all {bs : List Bool} (h : P (.bl (bs.all id)) M) : biD .all [.lst (bs.map D.bl)] M P := ⟨bs, rfl, h⟩
theorem bi_any {bs : List Bool} (h : P (.bl (bs.any id)) M) : biD .any [.lst (bs.map D.bl)] M P := ⟨bs, rfl, h⟩
theorem bi_sum {ns : List Int} (h : P (.int ns.sum) M) : biD .sum [.lst (ns.map D.int)] M P := ⟨ns, rfl, h⟩
theorem bi_min {ns : List Int} (hn : ns ≠ []) (h : P (.int (minL ns)) M) : biD .min [.lst (ns.map D.int)] M P := ⟨ns, rfl, hn, h⟩

/-! ### comprehensions and loops over encoded lists -/
variable {α : Type} {elt c : E} {t : T}
theorem Mem.le_refl : M.le M := fun _ _ h => h
theorem bindT_imp {T1 : T} {d : D} {r : Rho} {A B : Rho → Prop} (hAB : ∀ q, A q → B q) (hb : bindT T1 d r A) : bindT T1 d r B := by
  cases T1 with
  | one i => exact hAB _ hb
  | tup is => obtain ⟨xs, e1, e2, e3⟩ := hb; exact ⟨xs, e1, e2, hAB _ e3⟩
theorem fm_if (L : List α) (p : α → Bool) (g : α → D) : (L.map fun a => if p a = true then some (g a) else none).filterMap id = (L.filter p).map g := by
  induction L with
  | nil => rfl
  | cons a l ih => by_cases h : p a = true <;> simp_all
theorem lc_pre (m : Bool) (L : List α) (enc : α → D) (p : α → Bool) (g : α → D) (hn : L.length ≤ 100000)
    (h : ∀ Ma : Mem, M.le Ma → ∀ a ∈ L, bindT t (enc a) (wipeR ρ t.slots) fun ρ2 => (∀ C : D → Mem → Prop, C (.bl (p a)) Ma → wpE c ρ2 Ma C) ∧ (p a = true → ∀ E : D → Mem → Prop, E (g a) Ma → wpE elt ρ2 Ma E))
    (hP : if m = true then ∀ a, M a = none → P (.adr a) (M.set a (.lst ((L.filter p).map g))) else P (.lst ((L.filter p).map g)) M) : lcD elt t c m ρ P (L.map enc) M := by
  refine ⟨by simpa using hn, L.map fun a => if p a = true then some (g a) else none, by simp, fun Ma i x hle hx => ?_, ?_⟩
  · rw [List.getElem?_map] at hx
    obtain ⟨a, h1, h2⟩ := Option.map_eq_some_iff.mp hx
    subst h2
    refine bindT_imp (fun q hq => ?_) (h Ma hle a (List.mem_of_getElem? h1))
    refine hq.1 _ ⟨rfl, p a, rfl, ?_⟩
    by_cases hp : p a = true
    · rw [if_pos hp]
      refine hq.2 hp _ ⟨rfl, ?_⟩
      rw [List.getElem?_map, h1]
      simp [hp]
    · rw [if_neg hp, List.getElem?_map, h1]
      simp [hp]
  · rw [fm_if]; exact hP
theorem lc_filter (L : List α) (enc : α → D) (p : α → Bool) (g : α → D) (hn : L.length ≤ 100000)
    (h : ∀ Ma : Mem, M.le Ma → ∀ a ∈ L, bindT t (enc a) (wipeR ρ t.slots) fun ρ2 => (∀ C : D → Mem → Prop, C (.bl (p a)) Ma → wpE c ρ2 Ma C) ∧ (p a = true → ∀ E : D → Mem → Prop, E (g a) Ma → wpE elt ρ2 Ma E))
    (hP : P (.lst ((L.filter p).map g)) M) : lcD elt t c false ρ P (L.map enc) M := lc_pre false L enc p g hn h hP
theorem lc_map (L : List α) (enc g : α → D) (hn : L.length ≤ 100000)
    (h : ∀ Ma : Mem, M.le Ma → ∀ a ∈ L, bindT t (enc a) (wipeR ρ t.slots) fun ρ2 => ∀ E : D → Mem → Prop, E (g a) Ma → wpE elt ρ2 Ma E) (hP : P (.lst (L.map g)) M) : lcD elt t (.bl true) false ρ P (L.map enc) M := by
  refine lc_filter L enc (fun _ => true) g hn (fun Ma hle a ha => bindT_imp (fun q hq => ⟨fun C hC => hC, fun _ => hq⟩) (h Ma hle a ha)) ?_
  rw [List.filter_eq_self.mpr (fun _ _ => rfl)]; exact hP
theorem lc_mapM (L : List α) (enc g : α → D) (hn : L.length ≤ 100000)
    (h : ∀ Ma : Mem, M.le Ma → ∀ a ∈ L, bindT t (enc a) (wipeR ρ t.slots) fun ρ2 => ∀ E : D → Mem → Prop, E (g a) Ma → wpE elt ρ2 Ma E) (hP : ∀ a, M a = none → P (.adr a) (M.set a (.lst (L.map g)))) : lcD elt t (.bl true) true ρ P (L.map enc) M := by
  refine lc_pre true L enc (fun _ => true) g hn (fun Ma hle a ha => bindT_imp (fun q hq => ⟨fun C hC => hC, fun _ => hq⟩) (h Ma hle a ha)) ?_
  rw [List.filter_eq_self.mpr (fun _ _ => rfl)]; exact hP
theorem for_map {b : Ss} (L : List α) (enc : α → D) (I : Nat → Rho → Mem → Prop) (h0 : I 0 ρ M)
    (hs : ∀ (i : Nat) (a : α) (ρ' : Rho) (M' : Mem), L[i]? = some a → I i ρ' M' → bindT t (enc a) ρ' fun ρ2 => wpSs b ρ2 M' { nx := I (i + 1), ct := I (i + 1), bk := K.nx, rt := K.rt })
    (hk : ∀ ρ' M', I L.length ρ' M' → K.nx ρ' M') : forD t b K ρ (L.map enc) M := by
  refine ⟨I, h0, fun i x ρ' M' hx hI => ?_, by simpa using hk⟩
  rw [List.getElem?_map] at hx
  obtain ⟨a, h1, h2⟩ := Option.map_eq_some_iff.mp hx
  subst h2
  exact hs i a ρ' M' h1 hI
theorem zw {α β : Type} (f : α → β → D) (p : List α) (b : List β) : List.zipWith f p b = (p.zip b).map fun x => f x.1 x.2 := by
  induction p generalizing b with
  | nil => simp
  | cons x p ih => cases b with
    | nil => simp
    | cons y b => simp [ih]
theorem zip_enc {β : Type} (f : α → D) (g : β → D) (a : List α) (b : List β) : List.zipWith (fun u v => D.tup [u, v]) (a.map f) (b.map g) = (a.zip b).map fun x => .tup [f x.1, g x.2] := by
  induction a generalizing b with
  | nil => simp
  | cons x a ih => cases b with
    | nil => simp
    | cons y b => simp [ih]
theorem enum_enc (f : α → D) (a : List α) : List.zipWith (fun (i : Nat) u => D.tup [.int (i : Int), u]) (List.range (a.map f).length) (a.map f) = a.zipIdx.map fun x => .tup [.int (x.2 : Int), f x.1] := by
  apply List.ext_getElem?
  intro i
  rw [List.getElem?_zipWith, List.getElem?_map, List.getElem?_map, List.getElem?_zipIdx]
  by_cases h : i < a.length
  · simp [h]
  · simp [h]
theorem atI_nat {β : Type} {xs : List β} {k : Nat} {i : Int} (hi : i = (k : Int)) {d : β} (h : xs[k]? = some d) : atI xs i = some d := by
  subst hi
  have hk : k < xs.length := by
    rcases Nat.lt_or_ge k xs.length with h1 | h1
    · exact h1
    · rw [List.getElem?_eq_none h1] at h; cases h
  have : ixN xs.length (k : Int) = some k := by
    unfold ixN
    rw [if_pos (by omega), if_pos (by omega)]; simp
  unfold atI
  rw [this]; exact h
theorem ixN_nat {n k : Nat} {i : Int} (hi : i = (k : Int)) (h : k < n) : ixN n i = some k := by
  subst hi
  unfold ixN
  rw [if_pos (by omega), if_pos (by omega)]; simp
theorem atI_last {β : Type} {xs : List β} {d : β} (h : xs.getLast? = some d) : atI xs (-1) = some d := by
  have hn : 0 < xs.length := by
    cases xs with
    | nil => cases h
    | cons x xs => simp
  have : ixN xs.length (-1) = some (xs.length - 1) := by
    unfold ixN
    rw [if_neg (by omega), if_pos (by omega)]
    congr 1; omega
  unfold atI
  rw [this]
  show xs[xs.length - 1]? = some d
  rw [← List.getLast?_eq_getElem?]; exact h
@[simp] theorem at0 {β : Type} {x : β} {xs : List β} : atI (x :: xs) 0 = some x := atI_nat (k := 0) rfl rfl
@[simp] theorem at1 {β : Type} {x y : β} {xs : List β} : atI (x :: y :: xs) 1 = some y := atI_nat (k := 1) rfl rfl
@[simp] theorem at2 {β : Type} {x y z : β} {xs : List β} : atI (x :: y :: z :: xs) 2 = some z := atI_nat (k := 2) rfl rfl
theorem cut_hiN {β : Type} {xs : List β} {k : Nat} {i : Int} (hi : i = (k : Int)) (h : k ≤ xs.length) : cutA xs none (some i) = xs.take k := by
  subst hi
  have e1 : HT.sIx xs.length 0 none = 0 := rfl
  have e2 : HT.sIx xs.length xs.length (some (k : Int)) = k := by simp only [HT.sIx]; split <;> omega
  unfold cutA
  rw [e1, e2]; simp
theorem cut_loN {β : Type} {xs : List β} {k : Nat} {i : Int} (hi : i = (k : Int)) (h : k ≤ xs.length) : cutA xs (some i) none = xs.drop k := by
  subst hi
  have e1 : HT.sIx xs.length xs.length none = xs.length := rfl
  have e2 : HT.sIx xs.length 0 (some (k : Int)) = k := by simp only [HT.sIx]; split <;> omega
  unfold cutA
  rw [e1, e2]
  apply List.take_of_length_le; simp
theorem cut_N {β : Type} {xs : List β} {k l : Nat} {i j : Int} (hi : i = (k : Int)) (hj : j = (l : Int)) : cutA xs (some i) (some j) = (xs.drop k).take (l - k) := by
  subst hi hj
  by_cases h1 : k ≤ xs.length
  · have e2 : HT.sIx xs.length 0 (some (k : Int)) = k := by simp only [HT.sIx]; split <;> omega
    by_cases h2 : l ≤ xs.length
    · have e1 : HT.sIx xs.length xs.length (some (l : Int)) = l := by simp only [HT.sIx]; split <;> omega
      unfold cutA
      rw [e1, e2]
    · have e1 : HT.sIx xs.length xs.length (some (l : Int)) = xs.length := by simp only [HT.sIx]; split <;> omega
      unfold cutA
      rw [e1, e2, List.take_of_length_le (by simp), List.take_of_length_le (by simp; omega)]
  · have e2 : HT.sIx xs.length 0 (some (k : Int)) = xs.length := by simp only [HT.sIx]; split <;> omega
    unfold cutA
    rw [e2, List.drop_of_length_le (Nat.le_refl _), List.drop_of_length_le (by omega)]; simp
theorem cut_last {β : Type} {xs : List β} : cutA xs none (some (-1)) = xs.dropLast := by
  have e1 : HT.sIx xs.length 0 none = 0 := rfl
  have e2 : HT.sIx xs.length xs.length (some (-1)) = xs.length - 1 := by simp only [HT.sIx]; split <;> omega
  unfold cutA
  rw [e1, e2, List.dropLast_eq_take]; simp
@[simp] theorem fp_0_0 : fpos 0 0 = some 0 := by decide
@[simp] theorem fp_0_1 : fpos 0 1 = some 1 := by decide
@[simp] theorem fp_0_2 : fpos 0 2 = some 2 := by decide
@[simp] theorem fp_0_3 : fpos 0 3 = some 3 := by decide
@[simp] theorem fp_1_4 : fpos 1 4 = some 0 := by decide
@[simp] theorem fp_1_5 : fpos 1 5 = some 1 := by decide
@[simp] theorem fp_1_6 : fpos 1 6 = some 2 := by decide
@[simp] theorem fp_1_7 : fpos 1 7 = some 3 := by decide
@[simp] theorem fp_1_8 : fpos 1 8 = some 4 := by decide
@[simp] theorem fp_1_9 : fpos 1 9 = some 5 := by decide
@[simp] theorem fp_1_10 : fpos 1 10 = some 6 := by decide
@[simp] theorem fp_2_5 : fpos 2 5 = some 0 := by decide
@[simp] theorem fp_2_11 : fpos 2 11 = some 1 := by decide
@[simp] theorem fp_2_12 : fpos 2 12 = some 2 := by decide
@[simp] theorem fp_2_13 : fpos 2 13 = some 3 := by decide
@[simp] theorem fp_2_14 : fpos 2 14 = some 4 := by decide
@[simp] theorem fp_2_15 : fpos 2 15 = some 5 := by decide
@[simp] theorem fp_3_16 : fpos 3 16 = some 0 := by decide
@[simp] theorem fp_3_17 : fpos 3 17 = some 1 := by decide
@[simp] theorem fp_4_5 : fpos 4 5 = some 0 := by decide
@[simp] theorem fp_4_18 : fpos 4 18 = some 1 := by decide
@[simp] theorem fp_4_19 : fpos 4 19 = some 2 := by decide
@[simp] theorem fp_5_5 : fpos 5 5 = some 0 := by decide
@[simp] theorem fp_5_18 : fpos 5 18 = some 1 := by decide
@[simp] theorem fp_5_20 : fpos 5 20 = some 2 := by decide
@[simp] theorem fp_6_21 : fpos 6 21 = some 0 := by decide
@[simp] theorem fp_6_22 : fpos 6 22 = some 1 := by decide
@[simp] theorem fp_6_23 : fpos 6 23 = some 2 := by decide
@[simp] theorem fp_7_24 : fpos 7 24 = some 0 := by decide
@[simp] theorem fp_7_25 : fpos 7 25 = some 1 := by decide
@[simp] theorem fp_7_26 : fpos 7 26 = some 2 := by decide
@[simp] theorem fp_7_27 : fpos 7 27 = some 3 := by decide
@[simp] theorem fp_8_28 : fpos 8 28 = some 0 := by decide
@[simp] theorem fp_8_29 : fpos 8 29 = some 1 := by decide
@[simp] theorem fp_8_30 : fpos 8 30 = some 2 := by decide
@[simp] theorem fp_9_31 : fpos 9 31 = some 0 := by decide
@[simp] theorem fp_9_32 : fpos 9 32 = some 1 := by decide
@[simp] theorem fp_9_33 : fpos 9 33 = some 2 := by decide
@[simp] theorem fp_9_34 : fpos 9 34 = some 3 := by decide
@[simp] theorem fp_9_21 : fpos 9 21 = some 4 := by decide
@[simp] theorem fp_9_35 : fpos 9 35 = some 5 := by decide
@[simp] theorem fp_10_36 : fpos 10 36 = some 0 := by decide
@[simp] theorem fp_10_37 : fpos 10 37 = some 1 := by decide
@[simp] theorem fp_10_38 : fpos 10 38 = some 2 := by decide
@[simp] theorem fp_10_39 : fpos 10 39 = some 3 := by decide
@[simp] theorem sne_range_clocked : (("range" : Str) = "clocked") = False := eq_false (by decide)
@[simp] theorem sne_range_differ : (("range" : Str) = "differ") = False := eq_false (by decide)
@[simp] theorem sne_range_side : (("range" : Str) = "side") = False := eq_false (by decide)
@[simp] theorem sne_range_piece : (("range" : Str) = "piece") = False := eq_false (by decide)
@[simp] theorem sne_range_boxes : (("range" : Str) = "boxes") = False := eq_false (by decide)
@[simp] theorem sne_clocked_range : (("clocked" : Str) = "range") = False := eq_false (by decide)
@[simp] theorem sne_clocked_differ : (("clocked" : Str) = "differ") = False := eq_false (by decide)
@[simp] theorem sne_clocked_side : (("clocked" : Str) = "side") = False := eq_false (by decide)
@[simp] theorem sne_clocked_piece : (("clocked" : Str) = "piece") = False := eq_false (by decide)
@[simp] theorem sne_clocked_boxes : (("clocked" : Str) = "boxes") = False := eq_false (by decide)
@[simp] theorem sne_differ_range : (("differ" : Str) = "range") = False := eq_false (by decide)
@[simp] theorem sne_differ_clocked : (("differ" : Str) = "clocked") = False := eq_false (by decide)
@[simp] theorem sne_differ_side : (("differ" : Str) = "side") = False := eq_false (by decide)
@[simp] theorem sne_differ_piece : (("differ" : Str) = "piece") = False := eq_false (by decide)
@[simp] theorem sne_differ_boxes : (("differ" : Str) = "boxes") = False := eq_false (by decide)
@[simp] theorem sne_side_range : (("side" : Str) = "range") = False := eq_false (by decide)
@[simp] theorem sne_side_clocked : (("side" : Str) = "clocked") = False := eq_false (by decide)
@[simp] theorem sne_side_differ : (("side" : Str) = "differ") = False := eq_false (by decide)
@[simp] theorem sne_side_piece : (("side" : Str) = "piece") = False := eq_false (by decide)
@[simp] theorem sne_side_boxes : (("side" : Str) = "boxes") = False := eq_false (by decide)
@[simp] theorem sne_piece_range : (("piece" : Str) = "range") = False := eq_false (by decide)
@[simp] theorem sne_piece_clocked : (("piece" : Str) = "clocked") = False := eq_false (by decide)
@[simp] theorem sne_piece_differ : (("piece" : Str) = "differ") = False := eq_false (by decide)
@[simp] theorem sne_piece_side : (("piece" : Str) = "side") = False := eq_false (by decide)
@[simp] theorem sne_piece_boxes : (("piece" : Str) = "boxes") = False := eq_false (by decide)
@[simp] theorem sne_boxes_range : (("boxes" : Str) = "range") = False := eq_false (by decide)
@[simp] theorem sne_boxes_clocked : (("boxes" : Str) = "clocked") = False := eq_false (by decide)
@[simp] theorem sne_boxes_differ : (("boxes" : Str) = "differ") = False := eq_false (by decide)
@[simp] theorem sne_boxes_side : (("boxes" : Str) = "side") = False := eq_false (by decide)
@[simp] theorem sne_boxes_piece : (("boxes" : Str) = "piece") = False := eq_false (by decide)
@[simp] theorem sne_cut_reading : (("cut" : Str) = "reading") = False := eq_false (by decide)
@[simp] theorem sne_cut_known : (("cut" : Str) = "known") = False := eq_false (by decide)
@[simp] theorem sne_cut_kept : (("cut" : Str) = "kept") = False := eq_false (by decide)
@[simp] theorem sne_reading_cut : (("reading" : Str) = "cut") = False := eq_false (by decide)
@[simp] theorem sne_reading_known : (("reading" : Str) = "known") = False := eq_false (by decide)
@[simp] theorem sne_reading_kept : (("reading" : Str) = "kept") = False := eq_false (by decide)
@[simp] theorem sne_known_cut : (("known" : Str) = "cut") = False := eq_false (by decide)
@[simp] theorem sne_known_reading : (("known" : Str) = "reading") = False := eq_false (by decide)
@[simp] theorem sne_known_kept : (("known" : Str) = "kept") = False := eq_false (by decide)
@[simp] theorem sne_kept_cut : (("kept" : Str) = "cut") = False := eq_false (by decide)
@[simp] theorem sne_kept_reading : (("kept" : Str) = "reading") = False := eq_false (by decide)
@[simp] theorem sne_kept_known : (("kept" : Str) = "known") = False := eq_false (by decide)
@[simp] theorem sne_liars_steps : (("liars" : Str) = "steps") = False := eq_false (by decide)
@[simp] theorem sne_steps_liars : (("steps" : Str) = "liars") = False := eq_false (by decide)
/-! ### what is left behind is forgotten -/
def forg (sem : Sm) : Sm := fun ds M P => sem ds M fun d M' => ∃ M'' : Mem, M''.le M' ∧ P d M''
theorem cut_less {M M' : Mem} {H : Hp} (h : M'.le M) : Ex (cut M H) (cut M' H) := fun a o e => by
  obtain ⟨h1, h2⟩ := cut_some e
  refine cut_of ?_ h2
  cases e' : M' a with
  | none => rfl
  | some d => rw [h a d e'] at h1; cases h1
theorem MIs.less {G : Gc} {M M' : Mem} {H : Hp} (m : MIs G M H) (h : M'.le M) : MIs G M' H := fun b d hb => by
  rcases m b d (h b d hb) with ⟨xs, vs, h1, h2, h3⟩ | ⟨c, ds, dx, vs, h1, h2, h3, h4⟩
  · exact .inl ⟨xs, vs, h1, h2, h3.mono (cut_less h)⟩
  · exact .inr ⟨c, ds, dx, vs, h1, h2, h3.mono (cut_less h), h4⟩
theorem fn_forg {G : Gc} {k : Nat} {f : Addr} {fd : FuncData} {ps : List Str} {sem : Sm} (F : FnOk G.P G.w G.K G.mg G.base CX0 k f fd ps (spOf G sem)) : FnOk G.P G.w G.K G.mg G.base CX0 k f fd ps (spOf G (forg sem)) :=
  F.imp fun vs H Q E ⟨ds, M, P, m, l, hs, q⟩ => ⟨ds, M, _, m, l, hs, fun d M' v H' ⟨M'', hl, hP⟩ r m' i => q d M'' v H' hP (Evl.Ex.trans r (cut_less hl)) (m'.less hl) (i.mono (cut_less hl))⟩
theorem le_set {M : Mem} {a : Addr} {d : D} (h : M a = none) : M.le (M.set a d) := fun b e hb => by
  by_cases q : b = a
  · subst q; rw [h] at hb; cases hb
  · rw [Mem.set_ne q]; exact hb
theorem Mem.le.trans {M M' M'' : Mem} (h : M.le M') (h' : M'.le M'') : M.le M'' := fun b d hb => h' _ _ (h _ _ hb)
/-- a body's promise -/
def Does (N : List Str) (n : Nat) (b : Ss) (pr : Sm) : Prop := ∀ ds M P, pr ds M P → forg (bodyOf N.length n b) ds M P
end Sp
end
section
set_option Elab.async false
set_option linter.all false
set_option maxRecDepth 100000
/-! Typed mirrors of what the program reckons, how they lie in data, and each def's promise. -/
namespace Sp
open PySem L2

abbrev Sd := Int × Int
abbrev Pt := List Int
abbrev Bx := List Sd
def dP (p : Pt) : D := .tup (p.map .int)
def dS (s : Sd) : D := .tup [.int s.1, .int s.2]
def dB (b : Bx) : D := .tup (b.map dS)
def dBs (bs : List Bx) : D := .tup (bs.map dB)
def dN (xs : List Str) : D := .tup (xs.map .str)
def dU : Option (List Str) → D
  | none => .non
  | some xs => dN xs
inductive Kind where
  | range (p : Pt) | clocked (p : Pt) | differ (p q : Pt) | side (d : Pt) | piece (p q : Pt) | boxes (os : List Bx)
def Kind.d : Kind → D
  | .range p => .tup [.str "range", dP p]
  | .clocked p => .tup [.str "clocked", dP p]
  | .differ p q => .tup [.str "differ", dP p, dP q]
  | .side d => .tup [.str "side", dP d]
  | .piece p q => .tup [.str "piece", dP p, dP q]
  | .boxes os => .tup [.str "boxes", dBs os]
structure Stg where
  dims : Int
  speed : Int
  drift : Int
  per : Int
def Stg.d (s : Stg) : D := .ins 0 [.int s.dims, .int s.speed, .int s.drift, .int s.per]
structure Rdg where
  source : Str
  moment : Int
  kind : Kind
  low : Int
  high : Int
  late : Int
  near : Int
def Rdg.d (r : Rdg) : D := .ins 1 [.str r.source, .int r.moment, r.kind.d, .int r.low, .int r.high, .int r.late, .int r.near]
abbrev Rw := Int × Rdg
def dRw (r : Rw) : D := .tup [.int r.1, r.2.d]
def dRs (rs : List Rw) : D := .lst (rs.map dRw)
structure Qn where
  moment : Int
  root : Bx
  liars : Int
  share : Int
  earliest : Int
  latest : Int
def Qn.d (q : Qn) : D := .ins 2 [.int q.moment, dB q.root, .int q.liars, .int q.share, .int q.earliest, .int q.latest]
structure Mks where
  left : Int
  barred : List Str
def Mks.d (m : Mks) : D := .ins 3 [.int m.left, dN m.barred]
def dM : Option Mks → D
  | none => .non
  | some m => m.d
structure Hd where
  moment : Int
  cover : List Bx
  used : Option (List Str)
def Hd.d (h : Hd) : D := .ins 4 [.int h.moment, dBs h.cover, dU h.used]
inductive Stp where
  | cut (a p : Int) | reading (n : Int) | known (n : Int) | kept (n : Int)
def Stp.d : Stp → D
  | .cut a p => .tup [.str "cut", .int a, .int p]
  | .reading n => .tup [.str "reading", .int n]
  | .known n => .tup [.str "known", .int n]
  | .kept n => .tup [.str "kept", .int n]
abbrev Tr := List Stp
def dT (t : Tr) : D := .tup (t.map Stp.d)
structure Kw where
  moment : Int
  cover : List Bx
  tree : Tr
def Kw.d (k : Kw) : D := .ins 5 [.int k.moment, dBs k.cover, dT k.tree]
abbrev Bs := Int × List Int
def dBl (s : Bs) : D := .tup [.int s.1, dP s.2]
structure Ppr where
  known : List Kw
  trees : List Tr
  steps : List Bs
def Ppr.d (p : Ppr) : D := .ins 6 [.tup (p.known.map Kw.d), .tup (p.trees.map dT), .tup (p.steps.map dBl)]
def dPp : Option Ppr → D
  | none => .non
  | some p => p.d
structure Pln where
  moments : List Int
  grain : Int
  most : Int
  without : List (List Str)
def Pln.d (p : Pln) : D := .ins 10 [dP p.moments, .int p.grain, .int p.most, .tup (p.without.map dN)]

/-- the way of the world: two straight pieces, met at the turn -/
structure Way where
  place : Pt
  clock : Int
  turn : Int
  first : Pt
  second : Pt
  early : Int
  late : Int
def dL (p : Pt) : D := .lst (p.map .int)
def Way.d (w : Way) : D := .tup [dL w.place, .int w.clock, .int w.turn, dL w.first, dL w.second, .int w.early, .int w.late]

/-! ### numbers -/
def ru (n : Int) : Int := if rd n * rd n < n then rd n + 1 else rd n
def mid (b : Bx) : Pt := b.map fun s => (s.1 + s.2) / 2
def half (s : Sd) : Int := (s.2 - s.1 + 1) / 2
def rad (b : Bx) : Int := ru ((b.dropLast.map fun s => half s * half s).sum)
def gap (x : Int) (s : Sd) : Int := max3 (s.1 - x) (x - s.2) 0
def nearS (p : Pt) (b : Bx) : Int := ((p.zip b).map fun q => gap q.1 q.2 * gap q.1 q.2).sum
def fgap (x : Int) (s : Sd) : Int := max (absI (s.1 - x)) (absI (s.2 - x))
def farS (p : Pt) (b : Bx) : Int := ((p.zip b).map fun q => fgap q.1 q.2 * fgap q.1 q.2).sum
def dist (p : Pt) (b : Bx) : Int × Int := (rd (nearS p b), ru (farS p b))
def dotS (a b : Pt) : Int := ((a.zip b).map fun q => q.1 * q.2).sum
def minusS (a b : Pt) : Pt := (a.zip b).map fun q => q.1 - q.2
def pieceS (p a t : Pt) : Int × Int :=
  if dotS (minusS p a) (minusS t a) ≤ 0 then (dotS (minusS p a) (minusS p a), dotS (minusS p a) (minusS p a))
  else if dotS (minusS t a) (minusS t a) ≤ dotS (minusS p a) (minusS t a) then (dotS (minusS p t) (minusS p t), dotS (minusS p t) (minusS p t))
  else ((dotS (minusS p a) (minusS p a) * dotS (minusS t a) (minusS t a) - dotS (minusS p a) (minusS t a) * dotS (minusS p a) (minusS t a)) / dotS (minusS t a) (minusS t a),
    -(-(dotS (minusS p a) (minusS p a) * dotS (minusS t a) (minusS t a) - dotS (minusS p a) (minusS t a) * dotS (minusS p a) (minusS t a)) / dotS (minusS t a) (minusS t a)))
def sideS (d : Pt) (b : Bx) : Int × Int := (((d.zip b).map fun q => min (q.1 * q.2.1) (q.1 * q.2.2)).sum, ((d.zip b).map fun q => max (q.1 * q.2.1) (q.1 * q.2.2)).sum)
def bgap (s t : Sd) : Int := max3 (t.1 - s.2) (s.1 - t.2) 0
def betw (b o : Bx) : Int := ((b.zip o).map fun q => bgap q.1 q.2 * bgap q.1 q.2).sum
def ggap (s t : Sd) : Int := max5 (t.1 - s.1) (s.1 - t.2) (t.1 - s.2) (s.2 - t.2) 0
def grF (b o : Bx) : Int := ((b.zip o).map fun q => ggap q.1 q.2 * ggap q.1 q.2).sum
def lastS (b : Bx) : Sd := b.getLast?.getD (0, 0)
def spanS : Kind → Bx → Int × Int
  | .range p, b => dist p b.dropLast
  | .clocked p, b => ((dist p b.dropLast).1 + (lastS b).1, (dist p b.dropLast).2 + (lastS b).2)
  | .differ p q, b => ((dist p b.dropLast).1 - (dist q b.dropLast).2, (dist p b.dropLast).2 - (dist q b.dropLast).1)
  | .side d, b => sideS d b.dropLast
  | .piece p q, b => (rd (pieceS (mid b).dropLast p q).1 - rad b, ru (pieceS (mid b).dropLast p q).2 + rad b)
  | .boxes os, b => (rd (minL (os.map fun o => betw b.dropLast o)), ru (minL (os.map fun o => grF b.dropLast o)))
def reachS (s : Stg) (t : Int) : Int := -(-s.speed * t / s.per)
def slipS (s : Stg) (t : Int) : Int := -(-s.drift * t / s.per)
def fartherS (s : Stg) (t : Int) (b o : Bx) : Bool :=
  if s.speed * t * (s.speed * t) < s.per * s.per * betw b.dropLast o.dropLast then true else decide (s.drift * t < s.per * bgap (lastS b) (lastS o))
def widenS (s : Stg) (t : Int) (b : Bx) : Bx :=
  (b.dropLast.map fun q => (q.1 - reachS s t, q.2 + reachS s t)) ++ [((lastS b).1 - slipS s t, (lastS b).2 + slipS s t)]
def rateS : Kind → Int
  | .differ _ _ => 2
  | .side d => ru (dotS d d)
  | _ => 1
def crateS : Kind → Int
  | .clocked _ => 1
  | _ => 0
def movedS : Kind → Int
  | .side _ => 0
  | .differ _ _ => 2
  | _ => 1
def carriedS (s : Stg) (r : Rdg) (t : Int) : Int :=
  movedS r.kind * r.near + (rateS r.kind * reachS s (r.late + absI (r.moment - t)) + crateS r.kind * slipS s (r.late + absI (r.moment - t)))
def exclS (s : Stg) (r : Rdg) (t : Int) (b : Bx) : Bool :=
  decide ((spanS r.kind b).2 + carriedS s r t < r.low) || decide (r.high + carriedS s r t < (spanS r.kind b).1)
def insideS (b o : Bx) : Bool := (b.zip o).all fun q => decide (q.2.1 ≤ q.1.1) && decide (q.1.2 ≤ q.2.2)
def cutS (b : Bx) (axis place : Int) : Option (Bx × Bx) :=
  if 0 ≤ axis ∧ axis < b.length then
    if (b.getD axis.toNat (0, 0)).1 < place ∧ place < (b.getD axis.toNat (0, 0)).2 then
      some (b.take axis.toNat ++ [((b.getD axis.toNat (0, 0)).1, place)] ++ b.drop (axis.toNat + 1), b.take axis.toNat ++ [(place, (b.getD axis.toNat (0, 0)).2)] ++ b.drop (axis.toNat + 1))
    else none
  else none
def dCut : Option (Bx × Bx) → D
  | none => .non
  | some p => .tup [dB p.1, dB p.2]
def smallS (b : Bx) (n : Int) : Bool := b.all fun s => decide (s.2 - s.1 ≤ n)

/-! ### judging -/
def askedS (q : Qn) (rs : List Rw) : List Rw := rs.filter fun r => decide (q.earliest ≤ r.2.moment) && decide (r.2.moment ≤ q.latest)
def byReadingS (s : Stg) (t : Int) (n : Int) (b : Bx) : List Rw → Option (List Str)
  | [] => none
  | r :: rs => if r.1 = n then (if exclS s r.2 t b = true then some [r.2.source] else none) else byReadingS s t n b rs
def byKnownS (s : Stg) (held : List Hd) (k t : Int) (b : Bx) : Option (List Str) :=
  if 0 ≤ k ∧ k < held.length then
    match held[k.toNat]? with
    | some h => if (h.cover.all fun c => fartherS s (absI (t - h.moment)) c b) = true then h.used else none
    | none => none
  else none
def byKeptS (keep : List Bx) (k : Int) (b : Bx) : Option (List Str) :=
  if 0 ≤ k ∧ k < keep.length then
    match keep[k.toNat]? with
    | some c => if insideS b c = true then some [] else none
    | none => none
  else none
def byStepS (s : Stg) (rs : List Rw) (held : List Hd) (keep : List Bx) (t : Int) (st : Stp) (b : Bx) : Option (List Str) :=
  match st with
  | .reading n => byReadingS s t n b rs
  | .known k => byKnownS s held k t b
  | .kept k => byKeptS keep k b
  | .cut _ _ => none
def addNew (u : List Str) (found : List Str) : List Str := found.foldl (fun u n => if n ∈ u then u else u ++ [n]) u
/-- the walk through a tree; the pile's top first -/
def jt (s : Stg) (rs : List Rw) (held : List Hd) (keep : List Bx) (t : Int) : Tr → List Str → List (Bx × Int) → Option (List Str)
  | [], u, [] => some u
  | [], _, _ :: _ => none
  | _ :: _, _, [] => none
  | .cut a p :: tr, u, (b, deep) :: rows =>
    match cutS b a p with
    | none => none
    | some (x, y) => if 240 ≤ deep then none else jt s rs held keep t tr u ((x, deep + 1) :: (y, deep + 1) :: rows)
  | st :: tr, u, (b, _) :: rows =>
    match byStepS s rs held keep t st b with
    | none => none
    | some found => jt s rs held keep t tr (addNew u found) rows
def jtree (s : Stg) (rs : List Rw) (held : List Hd) (keep : List Bx) (t : Int) (tr : Tr) (b : Bx) : Option (List Str) := jt s rs held keep t tr [] [(b, 0)]
def rootAtS (s : Stg) (q : Qn) (t : Int) : Bx := widenS s (absI (t - q.moment)) q.root
def jnext (s : Stg) (q : Qn) (rs : List Rw) (held : List Hd) (k : Kw) : Option Hd :=
  match jtree s rs held k.cover k.moment k.tree (rootAtS s q k.moment) with
  | none => none
  | some u => some ⟨k.moment, k.cover, some u⟩
def dH : Option Hd → D
  | none => .non
  | some h => h.d
def jk (s : Stg) (q : Qn) (rs : List Rw) : List Hd → List Kw → Option (List Hd)
  | held, [] => some held
  | held, k :: ks =>
    match jnext s q rs held k with
    | none => none
    | some h => jk s q rs (held ++ [h]) ks
def jknown (s : Stg) (q : Qn) (rs : List Rw) (known : List Kw) : Option (List Hd) := jk s q (askedS q rs) [] known
def dHs : Option (List Hd) → D
  | none => .non
  | some hs => .lst (hs.map Hd.d)
abbrev Us := List (Option (List Str))
def dUs (us : Us) : D := .lst (us.map dU)
def usedBy (s : Stg) (q : Qn) (rs : List Rw) (held : List Hd) (trees : List Tr) (b : Bx) : Us := trees.map fun tr => jtree s (askedS q rs) held [] q.moment tr b
/-! ### blame -/
def joinS (m : Option Mks) (left : Int) (barred : List Str) : Mks :=
  match m with
  | none => ⟨left, barred⟩
  | some m => ⟨max m.left left, m.barred ++ barred⟩
def susp (ns honest : List Str) : List Str := ns.filter fun n => !decide (n ∈ honest)
def stepRight (us : Us) (st : Bs) (m : Mks) (honest : List Str) (at_ many : Int) : Bool :=
  if 0 ≤ st.1 ∧ st.1 < us.length then
    match us[st.1.toNat]? with
    | some (some ns) =>
      if (ns.any fun n => decide (n ∈ m.barred)) = true then false
      else if m.left = 0 then decide (st.2.length = 0)
      else decide (st.2.length = (susp ns honest).length) && st.2.all fun n => decide (at_ < n) && decide (n < many)
    | _ => false
  else false
def entry (us : Us) (n : Int) : List Str := ((us[n.toNat]?).getD none).getD []
def joins (m : Mks) : List (Str × Int) → List (Option Mks) → List (Option Mks)
  | [], rows => rows
  | (nm, n) :: r, rows => joins m r (rows.set n.toNat (some (joinS ((rows[n.toNat]?).getD none) (m.left - 1) (m.barred ++ [nm]))))
def brow (us : Us) (honest : List Str) (many : Int) : Nat → List Bs → List (Option Mks) → Bool
  | _, [], _ => true
  | i, st :: r, rows =>
    match rows[i]? with
    | some (some m) => if stepRight us st m honest i many = true then brow us honest many (i + 1) r (joins m ((susp (entry us st.1) honest).zip st.2) rows) else false
    | _ => brow us honest many (i + 1) r rows
def blames (us : Us) (steps : List Bs) (honest : List Str) (liars : Int) : Bool :=
  if steps.length = 0 then false else brow us honest steps.length 0 steps ((List.replicate steps.length none).set 0 (some ⟨liars, []⟩))
def jpaper (s : Stg) (q : Qn) (rs : List Rw) (p : Ppr) (b : Bx) (honest : List Str) : Bool :=
  match jknown s q rs p.known with
  | none => false
  | some held => blames (usedBy s q rs held p.trees b) p.steps honest q.liars
/-! ### making -/
def unmetFrom (path : List Str) : Nat → Us → Option Nat
  | _, [] => none
  | i, none :: us => unmetFrom path (i + 1) us
  | i, some ns :: us => if (ns.any fun n => decide (n ∈ path)) = true then unmetFrom path (i + 1) us else some i
def unmet (us : Us) (path : List Str) : Option Nat := unmetFrom path 0 us
def dO : Option Nat → D
  | none => .non
  | some n => .int (n : Int)
abbrev Ns := Nat × List Nat
/-- the steps of the children, and where they begin -/
def kids (f : Str → Nat → List Str ⊕ List Ns) : List Str → Nat → List Str ⊕ (List Ns × List Nat)
  | [], _ => .inr ([], [])
  | nm :: r, s =>
    match f nm s with
    | .inl p => .inl p
    | .inr st =>
      match kids f r (s + st.length) with
      | .inl p => .inl p
      | .inr (ks, fo) => .inr (st ++ ks, s :: fo)
def addS (us : Us) (honest : List Str) : Nat → List Str → Nat → List Str ⊕ List Ns
  | 0, path, _ =>
    match unmet us path with
    | none => .inl path
    | some n => .inr [(n, [])]
  | l + 1, path, s =>
    match unmet us path with
    | none => .inl path
    | some n =>
      match kids (fun nm s' => addS us honest l (path ++ [nm]) s') (susp (entry us n) honest) (s + 1) with
      | .inl p => .inl p
      | .inr (ks, fo) => .inr ((n, fo) :: ks)
def bsOf (s : Ns) : Bs := ((s.1 : Int), s.2.map fun (n : Nat) => (n : Int))
def makeSteps (us : Us) (honest : List Str) (liars : Nat) : List Str ⊕ List Bs :=
  match addS us honest liars [] 0 with
  | .inl p => .inl p
  | .inr st => .inr (st.map bsOf)
def dMs : List Str ⊕ List Bs → D
  | .inl p => .tup [.str "liars", dN p]
  | .inr st => .tup [.str "steps", .tup (st.map dBl)]
/-- the paper made, if one is -/
def mpaper (s : Stg) (q : Qn) (rs : List Rw) (known : List Kw) (trees : List Tr) (b : Bx) (honest : List Str) : Option Ppr :=
  match jknown s q rs known with
  | none => none
  | some held =>
    match makeSteps (usedBy s q rs held trees b) honest q.liars.toNat with
    | .inl _ => none
    | .inr st => some ⟨known, trees, st⟩
def madeTrees (rs : List Rw) (n : Nat) : List Tr := (rs.map fun r => [Stp.reading r.1]) ++ (List.range n).map fun (k : Nat) => [Stp.known (k : Int)]

/-! ### the law's drawing -/
def plS (w : Way) (t : Int) : Pt := (List.range w.place.length).map fun (k : Nat) => w.place.getD k 0 + (if t - w.turn < 0 then w.first else w.second).getD k 0 * (t - w.turn)
def ckS (w : Way) (t : Int) : Int := w.clock + (if t - w.turn < 0 then w.early else w.late) * (t - w.turn)
def sq2 (p q : Pt) : Int := dotS (minusS p q) (minusS p q)
def valS : Kind → Pt → Int → Int × Int
  | .range a, p, _ => (rd (sq2 p a), ru (sq2 p a))
  | .clocked a, p, c => (rd (sq2 p a) + c, ru (sq2 p a) + c)
  | .differ a b, p, _ => (rd (sq2 p a) - ru (sq2 p b), ru (sq2 p a) - rd (sq2 p b))
  | .side d, p, _ => (dotS d p, dotS d p)
  | .piece a b, p, _ => (rd (pieceS p a b).1, ru (pieceS p a b).2)
  | .boxes os, p, _ => (rd (minL (os.map fun o => nearS p o)), ru (minL (os.map fun o => nearS p o)))
def mvP (p sh : Pt) : Pt := (List.range p.length).map fun (k : Nat) => p.getD k 0 + sh.getD k 0
def mvB (b : Bx) (sh : Pt) : Bx := (List.range b.length).map fun (k : Nat) => ((b.getD k (0, 0)).1 + sh.getD k 0, (b.getD k (0, 0)).2 + sh.getD k 0)
def mvS (k : Kind) (sh : Pt) : Kind :=
  match k with
  | .range p => .range (mvP p sh)
  | .clocked p => .clocked (mvP p sh)
  | .differ p q => .differ (mvP p sh) (mvP q sh)
  | .side d => .side d
  | .piece p q => .piece (mvP p sh) (mvP q sh)
  | .boxes os => .boxes (os.map fun o => mvB o sh)
def cell0 (ns : List Int) (k : Nat) : Int := if 0 < ns.length then ns.getD (k % ns.length) 0 else 0
def cell1 (ns : List Int) (k : Nat) : Int := if cell0 ns k < 0 then 1 - 2 * cell0 ns k else cell0 ns k
def cellS (ns : List Int) (k : Nat) : Int :=
  if ns.length ≤ k ∨ cell1 ns k < 1000000000 then
    ((((cell1 ns k + 131 * (k : Int) + 7) * 48271 + (k : Int) * (k : Int) * 69621) % 1000000007 + 17 * (k : Int) + 3) * 2862933555777941757) % 18446744073709551557
  else cell1 ns k
def rowsS (ns : List Int) (n : Nat) : List Int := (List.range n).map fun k => cellS ns k
def manyS (ns : List Int) : Int := cellS ns 0 / 300 % 3
def liarsS (ns : List Int) : List Str := if cellS ns 0 / 7 % 2 = 1 then (["a", "b", "c-1", "d_"] : List Str).drop (4 - manyS ns).toNat else (["a", "b", "c-1", "d_"] : List Str).take (manyS ns).toNat

/-! ### within bounds -/
def Bd (k : Int) (p : Pt) : Prop := ∀ x ∈ p, -k ≤ x ∧ x ≤ k
def BdB (k : Int) (b : Bx) : Prop := ∀ s ∈ b, -k ≤ s.1 ∧ s.1 ≤ s.2 ∧ s.2 ≤ k
structure POk (n : Nat) (p : Pt) : Prop where
  len : p.length = n
  bd : Bd 100 p
structure BOk (n : Nat) (b : Bx) : Prop where
  len : b.length = n
  bd : BdB 1000000 b
inductive KOk (n : Nat) : Kind → Prop where
  | range {p} (h : POk n p) : KOk n (.range p)
  | clocked {p} (h : POk n p) : KOk n (.clocked p)
  | differ {p q} (h : POk n p) (h' : POk n q) : KOk n (.differ p q)
  | side {d} (h : POk n d) (hz : ∃ x ∈ d, x ≠ 0) : KOk n (.side d)
  | piece {p q} (h : POk n p) (h' : POk n q) : KOk n (.piece p q)
  | boxes {os} (h0 : os ≠ []) (h1 : os.length ≤ 16) (h : ∀ o ∈ os, BOk n o) : KOk n (.boxes os)
structure SOk (n : Nat) (s : Stg) : Prop where
  n23 : n = 2 ∨ n = 3
  dims : s.dims = n
  speed : 0 ≤ s.speed ∧ s.speed ≤ 8
  drift : 0 ≤ s.drift ∧ s.drift ≤ 2
  per : 1 ≤ s.per ∧ s.per ≤ 3
def names5 : List Str := ["a", "b", "c-1", "d_"]
structure ROk (n : Nat) (r : Rdg) : Prop where
  source : r.source ∈ names5
  moment : -1000 ≤ r.moment ∧ r.moment ≤ 1000
  kind : KOk n r.kind
  low : -1000000000 ≤ r.low ∧ r.low ≤ r.high
  high : r.high ≤ 1000000000
  late : 0 ≤ r.late ∧ r.late ≤ 10
  near : 0 ≤ r.near ∧ r.near ≤ 10
structure RsOk (n : Nat) (rs : List Rw) : Prop where
  len : rs.length ≤ 100
  all : ∀ r ∈ rs, ROk n r.2
structure QOk (n : Nat) (q : Qn) : Prop where
  moment : -1000 ≤ q.moment ∧ q.moment ≤ 1000
  len : q.root.length = n + 1
  root : BdB 1000 q.root
  liars : 0 ≤ q.liars ∧ q.liars ≤ 2
  share : 1 ≤ q.share ∧ q.share ≤ 1000
  earliest : -1000 ≤ q.earliest ∧ q.earliest ≤ q.latest
  latest : q.latest ≤ 1000
/-- names of sources, each once -/
structure UOk (u : List Str) : Prop where
  nd : u.Nodup
  sub : ∀ x ∈ u, x ∈ names5
structure HOk (n : Nat) (h : Hd) : Prop where
  moment : -1000 ≤ h.moment ∧ h.moment ≤ 1000
  len : h.cover.length ≤ 1000
  cover : ∀ c ∈ h.cover, BOk (n + 1) c
  used : ∀ u, h.used = some u → UOk u
structure KwOk (n : Nat) (k : Kw) : Prop where
  moment : -1000 ≤ k.moment ∧ k.moment ≤ 1000
  len : k.cover.length ≤ 1000
  cover : ∀ c ∈ k.cover, BOk (n + 1) c
  tlen : k.tree.length ≤ 1000
def sqP (p : Pt) : Int := dotS p p
structure WOk (n : Nat) (s : Stg) (w : Way) : Prop where
  len : w.place.length = n
  place : Bd 100 w.place
  clock : -10 ≤ w.clock ∧ w.clock ≤ 10
  turn : -10 ≤ w.turn ∧ w.turn ≤ 10
  lf : w.first.length = n
  ls : w.second.length = n
  bf : Bd 3 w.first
  bs : Bd 3 w.second
  sf : s.per * s.per * sqP w.first ≤ s.speed * s.speed
  ss : s.per * s.per * sqP w.second ≤ s.speed * s.speed
  be : -2 ≤ w.early ∧ w.early ≤ 2
  bl : -2 ≤ w.late ∧ w.late ≤ 2
  ce : s.per * absI w.early ≤ s.drift
  cl : s.per * absI w.late ≤ s.drift
/-- the world at a moment lies in a box -/
def Inn (w : Way) (t : Int) (b : Bx) : Prop := b.length = w.place.length + 1 ∧ ∀ k, k < b.length → (b.getD k (0, 0)).1 ≤ (plS w t ++ [ckS w t]).getD k 0 ∧ (plS w t ++ [ckS w t]).getD k 0 ≤ (b.getD k (0, 0)).2
/-- a reading tells the truth about the world -/
def Truth (w : Way) (r : Rdg) : Prop := ∃ tk sh, absI (tk - r.moment) ≤ r.late ∧ sh.length = w.place.length ∧ sqP sh ≤ r.near * r.near ∧ r.low ≤ (valS (mvS r.kind sh) (plS w tk) (ckS w tk)).1 ∧ (valS (mvS r.kind sh) (plS w tk) (ckS w tk)).2 ≤ r.high
structure KSafe (n : Nat) (k : Kind) : Prop where
  ok : KOk n k
  mv : ∀ sh : Pt, sh.length = n → Bd 10 sh → KOk n (mvS k sh)
structure PlOk (p : Pln) : Prop where
  len : p.moments.length ≤ 16
  asc : p.moments.Pairwise (· < ·)
  moments : Bd 1000 p.moments
  grain : 1 ≤ p.grain ∧ p.grain ≤ 100
  most : 1 ≤ p.most ∧ p.most ≤ 8
  without : p.without.length ≤ 8
  wlen : ∀ w ∈ p.without, w.length ≤ 8
end Sp
end
section
set_option Elab.async false
set_option linter.all false
set_option maxRecDepth 100000
/-! Each def's promise, and the def as it is called. -/
namespace Sp
open PySem L2

def mkI {α : Type} (c : Nat) (args : α → List D) (pre : α → Prop) (res : α → List D) : Sm := fun ds M P => ∃ a x, ds = .adr a :: args x ∧ M a = some (.ins c []) ∧ pre x ∧ P .non (M.set a (.ins c (res x)))
def mkC {α : Type} (c : Nat) (args : α → List D) (pre : α → Prop) (res : α → List D) : Sm := fun ds M P => ∃ x, ds = args x ∧ pre x ∧ P (.ins c (res x)) M
theorem mk_ok {α : Type} {c : Nat} {args : α → List D} {pre : α → Prop} {res : α → List D} : ∀ ds M P, mkC c args pre res ds M P → semMake c (mkI c args pre res) ds M P := fun ds M P ⟨x, h1, h2, h3⟩ a ha => by
  subst h1
  refine ⟨a, x, rfl, Mem.set_same, h2, rfl, _, Mem.set_same, ?_⟩
  rw [Mem.set_set, Mem.set_del ha]; exact h3

def aS (s : Stg) : List D := [.int s.dims, .int s.speed, .int s.drift, .int s.per]
def aR (r : Rdg) : List D := [.str r.source, .int r.moment, r.kind.d, .int r.low, .int r.high, .int r.late, .int r.near]
def aQ (q : Qn) : List D := [.int q.moment, dB q.root, .int q.liars, .int q.share, .int q.earliest, .int q.latest]
def aM (m : Mks) : List D := [.int m.left, dN m.barred]
def aH (h : Hd) : List D := [.int h.moment, dBs h.cover, dU h.used]
def aK (k : Kw) : List D := [.int k.moment, dBs k.cover, dT k.tree]
def aP (p : Ppr) : List D := [.tup (p.known.map Kw.d), .tup (p.trees.map dT), .tup (p.steps.map dBl)]
def aPl (p : Pln) : List D := [dP p.moments, .int p.grain, .int p.most, .tup (p.without.map dN)]
def any4 (x : D × D × D × D) : List D := [x.1, x.2.1, x.2.2.1, x.2.2.2]
def any3 (x : D × D × D) : List D := [x.1, x.2.1, x.2.2]
def tt {α : Type} (_ : α) : Prop := True
def i_Setting : Sm := mkI 0 aS (fun s => ∃ n, SOk n s) aS
def e_Setting : Ent := ⟨"Setting", 1, ["speed", "drift", "per"], mkC 0 aS (fun s => ∃ n, SOk n s) aS⟩
def i_Reading : Sm := mkI 1 aR (fun r => ∃ n, n ≤ 3 ∧ ROk n r) aR
def e_Reading : Ent := ⟨"Reading", 3, ["low", "high", "late", "near"], mkC 1 aR (fun r => ∃ n, n ≤ 3 ∧ ROk n r) aR⟩
def i_Question : Sm := mkI 2 aQ (fun q => ∃ n, n ≤ 3 ∧ QOk n q) aQ
def e_Question : Ent := ⟨"Question", 2, ["liars", "share", "earliest", "latest"], mkC 2 aQ (fun q => ∃ n, n ≤ 3 ∧ QOk n q) aQ⟩
def i_Marks : Sm := mkI 3 aM tt aM
def e_Marks : Ent := ⟨"Marks", 2, [], mkC 3 aM tt aM⟩
def i_Held : Sm := mkI 4 aH tt aH
def e_Held : Ent := ⟨"Held", 3, [], mkC 4 aH tt aH⟩
def i_Known : Sm := mkI 5 aK tt aK
def e_Known : Ent := ⟨"Known", 3, [], mkC 5 aK tt aK⟩
def i_Paper : Sm := mkI 6 aP tt aP
def e_Paper : Ent := ⟨"Paper", 3, [], mkC 6 aP tt aP⟩
def i_Standing : Sm := mkI 7 any4 tt any4
def e_Standing : Ent := ⟨"Standing", 4, [], mkC 7 any4 tt any4⟩
def i_Row : Sm := mkI 8 any3 tt any3
def e_Row : Ent := ⟨"Row", 3, [], mkC 8 any3 tt any3⟩
def i_Plan : Sm := mkI 10 aPl PlOk aPl
def e_Plan : Ent := ⟨"Plan", 1, ["grain", "most", "without"], mkC 10 aPl PlOk aPl⟩
def i_Knowing : Sm := fun ds M P => ∃ a s q r p, ds = [.adr a, s, q, r, p] ∧ M a = some (.ins 9 []) ∧ ∀ x y, x ≠ a → y ≠ a → x ≠ y → M x = none → M y = none → P .non (((M.set a (.ins 9 [s, q, r, p, .adr x, .adr y])).set x (.lst [])).set y (.lst []))
def e_Knowing : Ent := ⟨"Knowing", 4, [], fun ds M P => ∃ s q r p, ds = [s, q, r, p] ∧ ∀ x y, x ≠ y → M x = none → M y = none → P (.ins 9 [s, q, r, p, .adr x, .adr y]) ((M.set x (.lst [])).set y (.lst []))⟩
theorem Knowing_ok : ∀ ds M P, e_Knowing.sem ds M P → semMake 9 i_Knowing ds M P := fun ds M P ⟨s, q, r, p, h1, h2⟩ a ha => by
  subst h1
  refine ⟨a, s, q, r, p, rfl, Mem.set_same, fun x y hx hy hxy mx my => ⟨rfl, .ins 9 [s, q, r, p, .adr x, .adr y], ?_, ?_⟩⟩
  · rw [Mem.set_ne (Ne.symm hy), Mem.set_ne (Ne.symm hx), Mem.set_same]
  · rw [Mem.set_ne hx] at mx
    rw [Mem.set_ne hy] at my
    have e : ((((M.set a (.ins 9 [])).set a (.ins 9 [s, q, r, p, .adr x, .adr y])).set x (.lst [])).set y (.lst [])).del a = (M.set x (.lst [])).set y (.lst []) := by
      funext b
      by_cases e1 : b = a
      · subst e1; simp [Mem.del, Mem.set, ha, Ne.symm hx, Ne.symm hy]
      · by_cases e2 : b = x <;> by_cases e3 : b = y <;> simp_all [Mem.del, Mem.set]
    rw [e]; exact h2 x y hxy mx my

def p_is_name : Sm := fun ds M P => ∃ x, ds = [.str x] ∧ x ∈ names5 ∧ P (.bl true) M
def e_is_name : Ent := ⟨"is_name", 1, [], p_is_name⟩
def p_in_room : Sm := fun ds M P => ∃ p, ds = [dP p] ∧ p.length ≤ 10 ∧ Bd 1000 p ∧ P (.bl true) M
def e_in_room : Ent := ⟨"in_room", 1, [], p_in_room⟩
def p_box_in_room : Sm := fun ds M P => ∃ b, ds = [dB b] ∧ b.length ≤ 10 ∧ BdB 1000000 b ∧ P (.bl true) M
def e_box_in_room : Ent := ⟨"box_in_room", 1, [], p_box_in_room⟩
def p_kind_in_bounds : Sm := fun ds M P => ∃ n k, ds = [Kind.d k] ∧ n ≤ 3 ∧ KOk n k ∧ P (.bl true) M
def e_kind_in_bounds : Ent := ⟨"kind_in_bounds", 1, [], p_kind_in_bounds⟩
def p_asked : Sm := fun ds M P => ∃ n q rs, ds = [Qn.d q, dRs rs] ∧ RsOk n rs ∧ P (dRs (askedS q rs)) M
def e_asked : Ent := ⟨"asked", 2, [], p_asked⟩
def p_joined : Sm := fun ds M P => ∃ m l b, ds = [dM m, .int l, dN b] ∧ b.length ≤ 100 ∧ (∀ x, m = some x → x.barred.length ≤ 100) ∧ P (joinS m l b).d M
def e_joined : Ent := ⟨"_joined", 3, [], p_joined⟩
structure UsOk (us : Us) : Prop where
  len : us.length ≤ 1000
  all : ∀ u, some u ∈ us → UOk u
def p_step_right : Sm := fun ds M P => ∃ us st m hn a n, ds = [dUs us, dBl st, Mks.d m, dN hn, .int a, .int n] ∧ UsOk us ∧ st.2.length ≤ 1000 ∧ P (.bl (stepRight us st m hn a n)) M
def e_step_right : Ent := ⟨"_step_right", 6, [], p_step_right⟩
def p_blames_right : Sm := fun ds M P => ∃ us hn l st, ds = [dUs us, .tup ((List.map bsOf st).map dBl), dN hn, .int (l : Nat)] ∧ UsOk us ∧ l ≤ 2 ∧ addS us hn l [] 0 = .inr st ∧ P (.bl true) M
def e_blames_right : Ent := ⟨"blames_right", 2, ["honest", "liars"], p_blames_right⟩
def p_root_down : Sm := fun ds M P => ∃ n, ds = [.int n] ∧ 0 ≤ n ∧ n < 2 ^ 64 ∧ P (.int (rd n)) M
def e_root_down : Ent := ⟨"root_down", 1, [], p_root_down⟩
def p_root_up : Sm := fun ds M P => ∃ n, ds = [.int n] ∧ 0 ≤ n ∧ n < 2 ^ 64 ∧ P (.int (ru n)) M
def e_root_up : Ent := ⟨"root_up", 1, [], p_root_up⟩
def p_middle : Sm := fun ds M P => ∃ b, ds = [dB b] ∧ b.length ≤ 10 ∧ P (dP (mid b)) M
def e_middle : Ent := ⟨"middle", 1, [], p_middle⟩
def p_half_side : Sm := fun ds M P => ∃ s, ds = [dS s] ∧ P (.int (half s)) M
def e_half_side : Ent := ⟨"half_side", 1, [], p_half_side⟩
def p_radius : Sm := fun ds M P => ∃ n b, ds = [dB b] ∧ n ≤ 3 ∧ BOk (n + 1) b ∧ P (.int (rad b)) M
def e_radius : Ent := ⟨"radius", 1, [], p_radius⟩
def p_inside : Sm := fun ds M P => ∃ b o, ds = [dB b, dB o] ∧ b.length ≤ 10 ∧ P (.bl (insideS b o)) M
def e_inside : Ent := ⟨"inside", 2, [], p_inside⟩
def p_is_small : Sm := fun ds M P => ∃ b n, ds = [dB b, .int n] ∧ b.length ≤ 10 ∧ P (.bl (smallS b n)) M
def e_is_small : Ent := ⟨"is_small", 2, [], p_is_small⟩
def p_widest : Sm := fun ds M P => ∃ b, ds = [dB b] ∧ b.length ≤ 10 ∧ b ≠ [] ∧ ∀ k : Nat, k < b.length → P (.int k) M
def e_widest : Ent := ⟨"widest", 1, [], p_widest⟩
def p_cut : Sm := fun ds M P => ∃ b x y, ds = [dB b, .int x, .int y] ∧ b.length ≤ 10 ∧ P (dCut (cutS b x y)) M
def e_cut : Ent := ⟨"cut", 3, [], p_cut⟩
def p_halves : Sm := fun ds M P => ∃ b, ds = [dB b] ∧ b.length ≤ 10 ∧ b ≠ [] ∧ ∀ (x y : Int), P (dCut (cutS b x y)) M
def e_halves : Ent := ⟨"halves", 1, [], p_halves⟩
def p_nearest : Sm := fun ds M P => ∃ n p b, ds = [dP p, dB b] ∧ n ≤ 3 ∧ POk n p ∧ BOk n b ∧ P (.int (nearS p b)) M
def e_nearest : Ent := ⟨"nearest", 2, [], p_nearest⟩
def p_farthest : Sm := fun ds M P => ∃ n p b, ds = [dP p, dB b] ∧ n ≤ 3 ∧ POk n p ∧ BOk n b ∧ P (.int (farS p b)) M
def e_farthest : Ent := ⟨"farthest", 2, [], p_farthest⟩
def p_distances : Sm := fun ds M P => ∃ n p b, ds = [dP p, dB b] ∧ n ≤ 3 ∧ POk n p ∧ BOk n b ∧ P (dS (dist p b)) M
def e_distances : Ent := ⟨"distances", 2, [], p_distances⟩
def p_dot : Sm := fun ds M P => ∃ a b, ds = [dP a, dP b] ∧ a.length ≤ 10 ∧ Bd 10000000 a ∧ P (.int (dotS a b)) M
def e_dot : Ent := ⟨"dot", 2, [], p_dot⟩
def p_minus : Sm := fun ds M P => ∃ a b, ds = [dP a, dP b] ∧ a.length ≤ 10 ∧ P (dP (minusS a b)) M
def e_minus : Ent := ⟨"minus", 2, [], p_minus⟩
def p_from_piece : Sm := fun ds M P => ∃ n p a t, ds = [dP p, dP a, dP t] ∧ n ≤ 3 ∧ p.length = n ∧ Bd 1000000 p ∧ POk n a ∧ POk n t ∧ P (dS (pieceS p a t)) M
def e_from_piece : Ent := ⟨"from_piece", 3, [], p_from_piece⟩
def p_side_span : Sm := fun ds M P => ∃ n d b, ds = [dP d, dB b] ∧ n ≤ 3 ∧ POk n d ∧ BOk n b ∧ P (dS (sideS d b)) M
def e_side_span : Ent := ⟨"side_span", 2, [], p_side_span⟩
def p_between : Sm := fun ds M P => ∃ n b o, ds = [dB b, dB o] ∧ n ≤ 3 ∧ BOk n b ∧ BOk n o ∧ P (.int (betw b o)) M
def e_between : Ent := ⟨"between", 2, [], p_between⟩
def p_greatest_from : Sm := fun ds M P => ∃ n b o, ds = [dB b, dB o] ∧ n ≤ 3 ∧ BOk n b ∧ BOk n o ∧ P (.int (grF b o)) M
def e_greatest_from : Ent := ⟨"greatest_from", 2, [], p_greatest_from⟩
def p_span : Sm := fun ds M P => ∃ n k b, ds = [Kind.d k, dB b] ∧ n ≤ 3 ∧ KOk n k ∧ BOk (n + 1) b ∧ P (dS (spanS k b)) M
def e_span : Ent := ⟨"span", 2, [], p_span⟩
def p_reach : Sm := fun ds M P => ∃ n s t, ds = [Stg.d s, .int t] ∧ SOk n s ∧ 0 ≤ t ∧ t ≤ 10000 ∧ P (.int (reachS s t)) M
def e_reach : Ent := ⟨"reach", 2, [], p_reach⟩
def p_slip : Sm := fun ds M P => ∃ n s t, ds = [Stg.d s, .int t] ∧ SOk n s ∧ 0 ≤ t ∧ t ≤ 10000 ∧ P (.int (slipS s t)) M
def e_slip : Ent := ⟨"slip", 2, [], p_slip⟩
def p_farther : Sm := fun ds M P => ∃ n s t b o, ds = [Stg.d s, .int t, dB b, dB o] ∧ SOk n s ∧ 0 ≤ t ∧ t ≤ 10000 ∧ BOk (n + 1) b ∧ BOk (n + 1) o ∧ P (.bl (fartherS s t b o)) M
def e_farther : Ent := ⟨"farther", 4, [], p_farther⟩
def p_widened : Sm := fun ds M P => ∃ n s t b, ds = [Stg.d s, .int t, dB b] ∧ SOk n s ∧ 0 ≤ t ∧ t ≤ 10000 ∧ b.length = n + 1 ∧ P (dB (widenS s t b)) M
def e_widened : Ent := ⟨"widened", 3, [], p_widened⟩
def p_rate : Sm := fun ds M P => ∃ n k, ds = [Kind.d k] ∧ n ≤ 3 ∧ KOk n k ∧ P (.int (rateS k)) M
def e_rate : Ent := ⟨"rate", 1, [], p_rate⟩
def p_clock_rate : Sm := fun ds M P => ∃ k, ds = [Kind.d k] ∧ P (.int (crateS k)) M
def e_clock_rate : Ent := ⟨"clock_rate", 1, [], p_clock_rate⟩
def p_moved : Sm := fun ds M P => ∃ k, ds = [Kind.d k] ∧ P (.int (movedS k)) M
def e_moved : Ent := ⟨"moved", 1, [], p_moved⟩
def p_carried : Sm := fun ds M P => ∃ n s r t, ds = [Stg.d s, Rdg.d r, .int t] ∧ SOk n s ∧ ROk n r ∧ (-1000 ≤ t ∧ t ≤ 1000) ∧ P (.int (carriedS s r t)) M
def e_carried : Ent := ⟨"carried", 3, [], p_carried⟩
def p_excludes : Sm := fun ds M P => ∃ n s r t b, ds = [Stg.d s, Rdg.d r, .int t, dB b] ∧ SOk n s ∧ ROk n r ∧ (-1000 ≤ t ∧ t ≤ 1000) ∧ BOk (n + 1) b ∧ P (.bl (exclS s r t b)) M
def e_excludes : Ent := ⟨"excludes", 4, [], p_excludes⟩
def p_by_reading : Sm := fun ds M P => ∃ n s rs m t b, ds = [Stg.d s, dRs rs, .int m, .int t, dB b] ∧ SOk n s ∧ RsOk n rs ∧ (-1000 ≤ t ∧ t ≤ 1000) ∧ BOk (n + 1) b ∧ P (dU (byReadingS s t m b rs)) M
def e_by_reading : Ent := ⟨"_by_reading", 5, [], p_by_reading⟩
structure HsOk (n : Nat) (hs : List Hd) : Prop where
  len : hs.length ≤ 1000
  all : ∀ h ∈ hs, HOk n h
def p_by_known : Sm := fun ds M P => ∃ n s hd hs k t b, ds = [Stg.d s, hd, .int k, .int t, dB b] ∧ lstOf M hd = some (hs.map Hd.d) ∧ SOk n s ∧ HsOk n hs ∧ (-1000 ≤ t ∧ t ≤ 1000) ∧ BOk (n + 1) b ∧ P (dU (byKnownS s hs k t b)) M
def e_by_known : Ent := ⟨"_by_known", 5, [], p_by_known⟩
def p_by_kept : Sm := fun ds M P => ∃ n kp k b, ds = [dBs kp, .int k, dB b] ∧ n ≤ 3 ∧ BOk (n + 1) b ∧ P (dU (byKeptS kp k b)) M
def e_by_kept : Ent := ⟨"_by_kept", 3, [], p_by_kept⟩
def notCut : Stp → Prop | .cut _ _ => False | _ => True
def p_by_step : Sm := fun ds M P => ∃ n s rs hd hs kp t st b, ds = [Stg.d s, dRs rs, hd, dBs kp, .int t, Stp.d st, dB b] ∧ lstOf M hd = some (hs.map Hd.d) ∧ notCut st ∧ SOk n s ∧ RsOk n rs ∧ HsOk n hs ∧ (-1000 ≤ t ∧ t ≤ 1000) ∧ BOk (n + 1) b ∧ P (dU (byStepS s rs hs kp t st b)) M
def e_by_step : Ent := ⟨"_by_step", 7, [], p_by_step⟩
def p_judge_tree : Sm := fun ds M P => ∃ n s rs hd hs kp t tr b, ds = [Stg.d s, dRs rs, hd, dBs kp, .int t, dT tr, dB b] ∧ lstOf M hd = some (hs.map Hd.d) ∧ SOk n s ∧ RsOk n rs ∧ HsOk n hs ∧ (-1000 ≤ t ∧ t ≤ 1000) ∧ BOk (n + 1) b ∧ tr.length ≤ 1000 ∧ P (dU (jtree s rs hs kp t tr b)) M
def e_judge_tree : Ent := ⟨"judge_tree", 7, [], p_judge_tree⟩
def p_root_at : Sm := fun ds M P => ∃ n s q t, ds = [Stg.d s, Qn.d q, .int t] ∧ SOk n s ∧ QOk n q ∧ (-1000 ≤ t ∧ t ≤ 1000) ∧ P (dB (rootAtS s q t)) M
def e_root_at : Ent := ⟨"root_at", 3, [], p_root_at⟩
structure KsOk (n : Nat) (ks : List Kw) : Prop where
  len : ks.length ≤ 1000
  all : ∀ k ∈ ks, KwOk n k
def p_judge_next : Sm := fun ds M P => ∃ n s q rs hd hs k, ds = [Stg.d s, Qn.d q, dRs rs, hd, Kw.d k] ∧ lstOf M hd = some (hs.map Hd.d) ∧ SOk n s ∧ QOk n q ∧ RsOk n rs ∧ HsOk n hs ∧ KwOk n k ∧ P (dH (jnext s q rs hs k)) M
def e_judge_next : Ent := ⟨"judge_next", 5, [], p_judge_next⟩
def p_judge_known : Sm := fun ds M P => ∃ n s q rs kd ks, ds = [Stg.d s, Qn.d q, dRs rs, kd] ∧ walked kd = some (List.map Kw.d ks) ∧ SOk n s ∧ QOk n q ∧ RsOk n rs ∧ KsOk n ks ∧ P (dHs (jknown s q rs ks)) M
def e_judge_known : Ent := ⟨"judge_known", 4, [], p_judge_known⟩
structure TsOk (ts : List Tr) : Prop where
  len : ts.length ≤ 1000
  all : ∀ t ∈ ts, t.length ≤ 1000
def p_used_by : Sm := fun ds M P => ∃ n s q rs hs td ts b, ds = [Stg.d s, Qn.d q, dRs rs, .lst (List.map Hd.d hs), td, dB b] ∧ walked td = some (List.map dT ts) ∧ SOk n s ∧ QOk n q ∧ RsOk n rs ∧ HsOk n hs ∧ TsOk ts ∧ BOk (n + 1) b ∧ P (dUs (usedBy s q rs hs ts b)) M
def e_used_by : Ent := ⟨"used_by", 6, [], p_used_by⟩
def p_judge_paper : Sm := fun ds M P => ∃ n s q rs ks ts b hn p, ds = [Stg.d s, Qn.d q, dRs rs, Ppr.d p, dB b, dN hn] ∧ SOk n s ∧ QOk n q ∧ RsOk n rs ∧ KsOk n ks ∧ TsOk ts ∧ BOk (n + 1) b ∧ mpaper s q rs ks ts b hn = some p ∧ P (.bl true) M
def e_judge_paper_h : Ent := ⟨"judge_paper", 5, ["honest"], p_judge_paper⟩
def e_judge_paper_0 : Ent := ⟨"judge_paper", 5, [], fun ds M P => p_judge_paper (ds ++ [dN []]) M P⟩
def lessS (q : Qn) : Qn := { q with liars := q.liars - 1 }
def p_with_fewer : Sm := fun ds M P => ∃ n q, ds = [Qn.d q] ∧ n ≤ 3 ∧ QOk n q ∧ 1 ≤ q.liars ∧ P (lessS q).d M
def e_with_fewer : Ent := ⟨"_with_fewer", 1, [], p_with_fewer⟩
def othersS (src : Str) (rs : List Rw) : List Rw := rs.filter fun r => !decide (r.2.source = src)
/-- no paper, or one made -/
def Made (s : Stg) (q : Qn) (rs : List Rw) (hn : List Str) (n : Nat) : Option Ppr → Prop
  | none => True
  | some p => ∃ ks ts, KsOk n ks ∧ TsOk ts ∧ mpaper s q rs ks ts q.root hn = some p
def p_cannot_lie : Sm := fun ds M P => ∃ n s q rs src c, ds = [Stg.d s, Qn.d q, dRs rs, .str src, dPp c] ∧ SOk n s ∧ QOk n q ∧ RsOk n rs ∧ (c ≠ none → 1 ≤ q.liars) ∧ Made s (lessS q) (othersS src rs) [] n c ∧ P (.bl c.isSome) M
def e_cannot_lie : Ent := ⟨"cannot_lie", 5, [], p_cannot_lie⟩
def e_judge_witness : Ent := ⟨"judge_witness", 5, [], fun _ _ _ => False⟩
def p_shown_in : Sm := fun ds M P => ∃ s q r, ds = [s, q, r, .non] ∧ P (.bl false) M
def e_shown_in : Ent := ⟨"shown_in", 4, [], p_shown_in⟩
def p_standing : Sm := fun ds M P => ∃ n s q rs src m c, ds = [Stg.d s, Qn.d q, dRs rs, .str src, dPp m, dPp c, .non, .non] ∧ SOk n s ∧ QOk n q ∧ RsOk n rs ∧ (c ≠ none → 1 ≤ q.liars) ∧ Made s q rs [src] n m ∧ Made s (lessS q) (othersS src rs) [] n c ∧
  P (.ins 7 [.bl m.isSome, .bl c.isSome, .bl false, .bl false]) M
def e_standing : Ent := ⟨"standing", 4, ["must", "cannot"], fun ds M P => p_standing (ds ++ [.non, .non]) M P⟩
def p_suspects : Sm := fun ds M P => ∃ ns hn, ds = [dN ns, dN hn] ∧ ns.length ≤ 1000 ∧ P (.lst ((susp ns hn).map .str)) M
def e_suspects : Ent := ⟨"suspects", 2, [], p_suspects⟩
def p_first_unmet : Sm := fun ds M P => ∃ us p, ds = [dUs us, dN p] ∧ UsOk us ∧ P (dO (unmet us p)) M
def e_first_unmet : Ent := ⟨"first_unmet", 2, [], p_first_unmet⟩
/-- the rows of the list, each with a list of its own -/
def Rows (M M' : Mem) (xs : List D) (st : List Ns) : Prop := ∃ as : List Addr, as.length = st.length ∧ xs = (st.zip as).map (fun x => .tup [.int (x.1.1 : Nat), .adr x.2]) ∧ as.Nodup ∧ (∀ x ∈ as, M x = none) ∧ ∀ x ∈ st.zip as, M' x.2 = some (.lst (x.1.2.map fun (n : Nat) => .int (n : Int)))
def p_add_steps (l : Nat) : Sm := fun ds M P => ∃ a us hn p xs, ds = [.adr a, dUs us, dN hn, dN p, .int (l : Nat)] ∧ UsOk us ∧ p.length + l ≤ 10 ∧ M a = some (.lst xs) ∧ xs.length + 5 ^ (l + 1) ≤ 1000 ∧
  match addS us hn l p xs.length with
  | .inl f => ∀ M' : Mem, (∀ b d, b ≠ a → M b = some d → M' b = some d) → P (dN f) M'
  | .inr st => ∀ (M' : Mem) (ys : List D), (∀ b d, b ≠ a → M b = some d → M' b = some d) → M' a = some (.lst (xs ++ ys)) → Rows M M' ys st → P .non M'
def e_add_steps (l : Nat) : Ent := ⟨"_add_steps", 5, [], p_add_steps l⟩
def e_add_none : Ent := ⟨"_add_steps", 5, [], fun _ _ _ => False⟩
def p_add_any : Sm := fun ds M P => ∃ l, l ≤ 2 ∧ p_add_steps l ds M P
def e_add_any : Ent := ⟨"_add_steps", 5, [], p_add_any⟩
def p_make_steps : Sm := fun ds M P => ∃ us hn l, ds = [dUs us, dN hn, .int (l : Nat)] ∧ UsOk us ∧ l ≤ 2 ∧ P (dMs (makeSteps us hn l)) M
def e_make_steps : Ent := ⟨"make_steps", 1, ["honest", "liars"], p_make_steps⟩
def dPath : Option Ppr → D → Prop
  | some p, r => r = p.d
  | none, r => paperD r = some false
def p_make_paper : Sm := fun ds M P => ∃ n s q rs ks ts b hn, ds = [Stg.d s, Qn.d q, dRs rs, .lst (List.map Kw.d ks), .lst (List.map dT ts), dB b, dN hn] ∧ SOk n s ∧ QOk n q ∧ RsOk n rs ∧ KsOk n ks ∧ TsOk ts ∧ BOk (n + 1) b ∧
  ∀ r, dPath (mpaper s q rs ks ts b hn) r → P r M
def e_make_paper : Ent := ⟨"make_paper", 6, ["honest"], p_make_paper⟩
/-- the knowing -/
def kng (s : Stg) (q : Qn) (rs : List Rw) (p : Pln) (x y : Addr) : D := .ins 9 [s.d, q.d, dRs rs, p.d, .adr x, .adr y]
structure Kst (n : Nat) (s : Stg) (q : Qn) (rs : List Rw) (p : Pln) (x y : Addr) (ks : List Kw) (hs : List Hd) (M : Mem) : Prop where
  s : SOk n s
  q : QOk n q
  rs : RsOk n rs
  p : PlOk p
  ne : x ≠ y
  mx : M x = some (.lst (ks.map Kw.d))
  my : M y = some (.lst (hs.map Hd.d))
  len : ks.length = hs.length
  ks : ∀ k ∈ ks, KwOk n k
  hs : ∀ h ∈ hs, HOk n h
inductive Lst (hs : List Hd) : D → Prop where
  | non : Lst hs .non
  | at_ {k : Nat} (h : k < hs.length) : Lst hs (.int k)
def p_far : Sm := fun ds M P => ∃ n s q rs p x y h t b, ds = [kng s q rs p x y, Hd.d h, .int t, dB b] ∧ SOk n s ∧ HOk n h ∧ (-1000 ≤ t ∧ t ≤ 1000) ∧ BOk (n + 1) b ∧ ∀ c, P (.bl c) M
def e_far : Ent := ⟨"far", 3, [], p_far⟩
def p_left_out : Sm := fun ds M P => ∃ n s q rs p x y ks hs nm l t b, ds = [kng s q rs p x y, dN nm, l, .int t, dB b] ∧ Kst n s q rs p x y ks hs M ∧ Lst hs l ∧ (-1000 ≤ t ∧ t ≤ 1000) ∧ BOk (n + 1) b ∧ P .non M ∧ ∀ st : Stp, P st.d M
def e_left_out : Ent := ⟨"left_out", 4, [], p_left_out⟩
def p_make_cover : Sm := fun ds M P => ∃ n s q rs p x y ks hs nm l t, ds = [kng s q rs p x y, dN nm, l, .int t] ∧ Kst n s q rs p x y ks hs M ∧ Lst hs l ∧ (-1000 ≤ t ∧ t ≤ 1000) ∧
  ∀ tr cv, tr.length ≤ 1000 → cv.length ≤ 1000 → (∀ c ∈ cv, BOk (n + 1) c) → P (.tup [dT tr, dBs cv]) M
def e_make_cover : Ent := ⟨"make_cover", 3, [], p_make_cover⟩
def p_add : Sm := fun ds M P => ∃ n s q rs p x y ks hs nm l t, ds = [kng s q rs p x y, dN nm, l, .int t] ∧ Kst n s q rs p x y ks hs M ∧ ks.length ≤ 900 ∧ Lst hs l ∧ (-1000 ≤ t ∧ t ≤ 1000) ∧
  ∀ k h, KwOk n k → HOk n h → P (.int (ks.length : Nat)) ((M.set x (.lst ((ks ++ [k]).map Kw.d))).set y (.lst ((hs ++ [h]).map Hd.d)))
def e_add : Ent := ⟨"add", 3, [], p_add⟩
def p_add_row : Sm := fun ds M P => ∃ n s q rs p x y ks hs nm ts, ds = [kng s q rs p x y, dN nm, dL ts] ∧ Kst n s q rs p x y ks hs M ∧ ks.length ≤ 800 ∧ ts.length ≤ 20 ∧ Bd 1000 ts ∧
  ∀ ks' hs', ks'.length = ts.length → hs'.length = ts.length → (∀ k ∈ ks', KwOk n k) → (∀ h ∈ hs', HOk n h) → P .non ((M.set x (.lst ((ks ++ ks').map Kw.d))).set y (.lst ((hs ++ hs').map Hd.d)))
def e_add_row : Ent := ⟨"add_row", 2, [], p_add_row⟩
def p_know : Sm := fun ds M P => ∃ n s q rs p, ds = [Stg.d s, Qn.d q, dRs rs, Pln.d p] ∧ SOk n s ∧ QOk n q ∧ RsOk n rs ∧ PlOk p ∧ ∀ a ks u v, M a = none → KsOk n ks → ks.length ≤ 400 → P (.tup [.adr a, u, v]) (M.set a (.lst (List.map Kw.d ks)))
def e_know : Ent := ⟨"know", 4, [], p_know⟩

/-! ### the law's own -/
def p_law_rows : Sm := fun ds M P => ∃ ns k, ds = [.scr ns, .int (k : Nat)] ∧ ns.length ≤ 100000 ∧ k ≤ 100 ∧ P (dL (rowsS ns k)) M
def e_law_rows : Ent := ⟨"_law_rows", 2, [], p_law_rows⟩
def p_law_root : Sm := fun ds M P => ∃ n, ds = [.int n] ∧ 0 ≤ n ∧ n < 2 ^ 64 ∧ P (.int (rd n)) M
def e_law_root : Ent := ⟨"_law_root", 1, [], p_law_root⟩
def p_law_up : Sm := fun ds M P => ∃ n, ds = [.int n] ∧ 0 ≤ n ∧ n < 2 ^ 64 ∧ P (.int (ru n)) M
def e_law_up : Ent := ⟨"_law_up", 1, [], p_law_up⟩
def p_law_digits : Sm := fun ds M P => ∃ r b k, ds = [.int r, .int b, .int (k : Nat)] ∧ 0 < b ∧ b < 1000 ∧ k ≤ 100 ∧ ∀ xs : List Int, xs.length = k → (∀ x ∈ xs, 0 ≤ x ∧ x < b) → P (dL xs) M
def e_law_digits : Ent := ⟨"_law_digits", 3, [], p_law_digits⟩
def p_law_setting : Sm := fun ds M P => ∃ r, ds = [.int r] ∧ ∀ n s, SOk n s → P s.d M
def e_law_setting : Ent := ⟨"_law_setting", 1, [], p_law_setting⟩
def p_law_velocity : Sm := fun ds M P => ∃ n s r, ds = [Stg.d s, .int r] ∧ SOk n s ∧ ∀ v : Pt, v.length = n → Bd 3 v → s.per * s.per * sqP v ≤ s.speed * s.speed → P (dL v) M
def e_law_velocity : Ent := ⟨"_law_velocity", 2, [], p_law_velocity⟩
def p_law_at : Sm := fun ds M P => ∃ n s w t, ds = [Way.d w, .int t] ∧ n ≤ 3 ∧ WOk n s w ∧ (-1000 ≤ t ∧ t ≤ 1000) ∧ P (dL (plS w t ++ [ckS w t])) M
def e_law_at : Ent := ⟨"_law_at", 2, [], p_law_at⟩
def p_law_way : Sm := fun ds M P => ∃ n s rs, ds = [Stg.d s, dL rs] ∧ SOk n s ∧ rs.length = 3 ∧ ∀ w, WOk n s w → P w.d M
def e_law_way : Ent := ⟨"_law_way", 2, [], p_law_way⟩
def p_law_square : Sm := fun ds M P => ∃ a b p q, ds = [a, b] ∧ itemsOf M a = some (List.map D.int p) ∧ itemsOf M b = some (List.map D.int q) ∧ p.length = q.length ∧ p.length ≤ 10 ∧ Bd 1000000 p ∧ Bd 1000000 q ∧ P (.int (sq2 p q)) M
def e_law_square : Ent := ⟨"_law_square", 2, [], p_law_square⟩
def p_law_piece : Sm := fun ds M P => ∃ n p a t, ds = [dL p, dP a, dP t] ∧ n ≤ 3 ∧ p.length = n ∧ Bd 1000000 p ∧ POk n a ∧ POk n t ∧ P (dS (pieceS p a t)) M
def e_law_piece : Ent := ⟨"_law_piece", 3, [], p_law_piece⟩
def p_law_boxes : Sm := fun ds M P => ∃ n p os, ds = [dL p, dBs os] ∧ n ≤ 3 ∧ p.length = n ∧ Bd 1000000 p ∧ os ≠ [] ∧ (∀ o ∈ os, BOk n o) ∧ P (.int (minL (os.map fun o => nearS p o))) M
def e_law_boxes : Ent := ⟨"_law_boxes", 2, [], p_law_boxes⟩
def p_law_value : Sm := fun ds M P => ∃ n k p c, ds = [Kind.d k, dL p, .int c] ∧ n ≤ 3 ∧ p.length = n ∧ Bd 1000000 p ∧ KOk n k ∧ P (dS (valS k p c)) M
def e_law_value : Ent := ⟨"_law_value", 3, [], p_law_value⟩
def p_law_point : Sm := fun ds M P => ∃ n r, ds = [.int (n : Nat), .int r] ∧ n ≤ 3 ∧ ∀ p : Pt, p.length = n → Bd 20 p → P (dP p) M
def e_law_point : Ent := ⟨"_law_point", 2, [], p_law_point⟩
def p_law_kind : Sm := fun ds M P => ∃ n r, ds = [.int (n : Nat), .int r] ∧ (n = 2 ∨ n = 3) ∧ ∀ k, KSafe n k → P k.d M
def e_law_kind : Ent := ⟨"_law_kind", 2, [], p_law_kind⟩
def p_law_moved : Sm := fun ds M P => ∃ n k sh, ds = [Kind.d k, dL sh] ∧ n ≤ 3 ∧ KOk n k ∧ sh.length = n ∧ P (mvS k sh).d M
def e_law_moved : Ent := ⟨"_law_moved", 2, [], p_law_moved⟩
def p_law_reading : Sm := fun ds M P => ∃ n s w nm r l, ds = [Way.d w, .int (n : Nat), .str nm, .int r, .bl l] ∧ (n = 2 ∨ n = 3) ∧ WOk n s w ∧ nm ∈ names5 ∧ ∀ rd, ROk n rd → rd.source = nm → (l = false → Truth w rd) → P rd.d M
def e_law_reading : Ent := ⟨"_law_reading", 5, [], p_law_reading⟩
def p_law_readings : Sm := fun ds M P => ∃ n s w rs m ls, ds = [Way.d w, .int (n : Nat), dL rs, .int (m : Nat), .lst (names5.map .str), .lst (List.map D.str ls)] ∧ (n = 2 ∨ n = 3) ∧ WOk n s w ∧ m ≤ 7 ∧ rs.length = 7 ∧
  ∀ rs, RsOk n rs → rs.length ≤ 7 → (∀ r ∈ rs, r.2.source ∉ ls → Truth w r.2) → P (dRs rs) M
def e_law_readings : Ent := ⟨"_law_readings", 6, [], p_law_readings⟩
def p_law_question : Sm := fun ds M P => ∃ n s w r l, ds = [Way.d w, .int (n : Nat), .int r, .int l] ∧ (n = 2 ∨ n = 3) ∧ WOk n s w ∧ (0 ≤ l ∧ l ≤ 2) ∧ ∀ q, QOk n q → q.liars = l → Inn w q.moment q.root → P q.d M
def e_law_question : Ent := ⟨"_law_question", 4, [], p_law_question⟩
def p_law_plan : Sm := fun ds M P => ∃ n q rs xs, ds = [Qn.d q, dRs rs, dL xs, .lst (names5.map .str)] ∧ n ≤ 3 ∧ QOk n q ∧ RsOk n rs ∧ rs.length ≤ 7 ∧ xs.length = 2 ∧ ∀ p, PlOk p → P p.d M
def e_law_plan : Ent := ⟨"_law_plan", 4, [], p_law_plan⟩
structure Case (ns : List Int) (n : Nat) (s : Stg) (q : Qn) (rs : List Rw) (p : Pln) (w : Way) : Prop where
  oks : SOk n s
  okq : QOk n q
  okr : RsOk n rs
  okp : PlOk p
  okw : WOk n s w
  many : q.liars = manyS ns
  inn : Inn w q.moment q.root
  truth : ∀ r ∈ rs, r.2.source ∉ liarsS ns → Truth w r.2
def p_law_case : Sm := fun ds M P => ∃ ns, ds = [.scr ns] ∧ ns.length ≤ 100000 ∧ ∀ n s q rs p w st th, Case ns n s q rs p w → P (.tup [s.d, q.d, dRs rs, p.d, .int st, th]) M
def e_law_case : Ent := ⟨"_law_case", 1, [], p_law_case⟩
def p_law_made : Sm := fun ds M P => ∃ n s q rs p hn, ds = [Stg.d s, Qn.d q, dRs rs, Pln.d p, dN hn] ∧ SOk n s ∧ QOk n q ∧ RsOk n rs ∧ PlOk p ∧ ∀ m, Made s q rs hn n m → P (dPp m) M
def e_law_made : Ent := ⟨"_law_made", 5, [], p_law_made⟩
def p_law : Sm := fun ds M P => ∃ ns, ds = [.scr ns] ∧ ns.length ≤ 100000 ∧ P (.bl true) M
end Sp
end
section
set_option Elab.async false
set_option linter.all false
set_option maxRecDepth 100000
/-! Each def in our syntax (printed by ir.py). -/
namespace Sp
open PySem L2
def n_is_name : List Str := ["text", "sign"]
def b_is_name : Ss :=
  (.cons (.ret (.and (.ch2 .le .le (.int 1) (.bi .len (.cons (.var 0) .nil)) (.glob 1)) (.bi .all (.cons (.lc (.cmp .isin (.var 1) (.glob 2)) (.one 1) (.seq (.var 0)) (.bl true) false) .nil)))) .nil)
def n_Setting_init : List Str := ["self", "dims", "speed", "drift", "per"]
def b_Setting_init : Ss :=
  (.cons (.iff (.or (.cmp .notin (.var 1) (.tup (.cons (.int 2) (.cons (.int 3) .nil)))) (.or (.not (.ch2 .le .le (.int 0) (.var 2) (.glob 0))) (.or (.not (.ch2 .le .le (.int 0) (.var 3) (.glob 0))) (.not (.ch2 .le .le (.int 1) (.var 4) (.glob 0)))))) (.cons .nev .nil) .nil) (.cons (.fld (.var 0) 0 (.var 1)) (.cons (.fld (.var 0) 1 (.var 2)) (.cons (.fld (.var 0) 2 (.var 3)) (.cons (.fld (.var 0) 3 (.var 4)) .nil)))))
def n_in_room : List Str := ["numbers", "number"]
def b_in_room : Ss :=
  (.cons (.ret (.bi .all (.cons (.lc (.ch2 .le .le (.neg (.glob 0)) (.var 1) (.glob 0)) (.one 1) (.seq (.var 0)) (.bl true) false) .nil))) .nil)
def n_box_in_room : List Str := ["box", "low", "high"]
def b_box_in_room : Ss :=
  (.cons (.ret (.bi .all (.cons (.lc (.ch3 .le .le .le (.neg (.glob 0)) (.var 1) (.var 2) (.glob 0)) (.tup [1, 2]) (.seq (.var 0)) (.bl true) false) .nil))) .nil)
def n_kind_in_bounds : List Str := ["kind", "number", "box", "point"]
def b_kind_in_bounds : Ss :=
  (.cons (.iff (.cmp .eq (.idx (.var 0) (.int 0)) (.str "side")) (.cons (.ret (.and (.bi .all (.cons (.lc (.cmp .le (.bi .abs (.cons (.var 1) .nil)) (.glob 4)) (.one 1) (.seq (.idx (.var 0) (.int 1))) (.bl true) false) .nil)) (.bi .any (.cons (.lc (.cmp .ne (.var 1) (.int 0)) (.one 1) (.seq (.idx (.var 0) (.int 1))) (.bl true) false) .nil)))) .nil) .nil) (.cons (.iff (.cmp .eq (.idx (.var 0) (.int 0)) (.str "boxes")) (.cons (.ret (.and (.ch2 .le .le (.int 1) (.bi .len (.cons (.idx (.var 0) (.int 1)) .nil)) (.glob 5)) (.bi .all (.cons (.lc (.call e_box_in_room (.cons (.var 2) .nil) .nil) (.one 2) (.seq (.idx (.var 0) (.int 1))) (.bl true) false) .nil)))) .nil) .nil) (.cons (.ret (.and (.inP (.idx (.var 0) (.int 0))) (.bi .all (.cons (.lc (.call e_in_room (.cons (.var 3) .nil) .nil) (.one 3) (.seq (.slLo (.var 0) (.int 1))) (.bl true) false) .nil)))) .nil)))
def n_Reading_init : List Str := ["self", "source", "moment", "kind", "low", "high", "late", "near"]
def b_Reading_init : Ss :=
  (.cons (.iff (.or (.not (.call e_is_name (.cons (.var 1) .nil) .nil)) (.or (.not (.call e_in_room (.cons (.tup (.cons (.var 2) .nil)) .nil) .nil)) (.not (.call e_kind_in_bounds (.cons (.var 3) .nil) .nil)))) (.cons .nev .nil) .nil) (.cons (.iff (.or (.not (.ch3 .le .le .le (.neg (.glob 3)) (.var 4) (.var 5) (.glob 3))) (.or (.not (.ch2 .le .le (.int 0) (.var 6) (.glob 0))) (.not (.ch2 .le .le (.int 0) (.var 7) (.glob 0))))) (.cons .nev .nil) .nil) (.cons (.fld (.var 0) 4 (.var 1)) (.cons (.fld (.var 0) 5 (.var 2)) (.cons (.fld (.var 0) 6 (.var 3)) (.cons (.fld (.var 0) 7 (.var 4)) (.cons (.fld (.var 0) 8 (.var 5)) (.cons (.fld (.var 0) 9 (.var 6)) (.cons (.fld (.var 0) 10 (.var 7)) .nil)))))))))
def n_Question_init : List Str := ["self", "moment", "root", "liars", "share", "earliest", "latest"]
def b_Question_init : Ss :=
  (.cons (.iff (.or (.not (.call e_in_room (.cons (.tup (.cons (.var 1) (.cons (.var 5) (.cons (.var 6) .nil)))) .nil) .nil)) (.or (.cmp .gt (.var 5) (.var 6)) (.not (.call e_box_in_room (.cons (.var 2) .nil) .nil)))) (.cons .nev .nil) .nil) (.cons (.iff (.or (.not (.ch2 .le .le (.int 0) (.var 3) (.glob 6))) (.not (.ch2 .le .le (.int 1) (.var 4) (.glob 0)))) (.cons .nev .nil) .nil) (.cons (.fld (.var 0) 5 (.var 1)) (.cons (.fld (.var 0) 11 (.var 2)) (.cons (.fld (.var 0) 12 (.var 3)) (.cons (.fld (.var 0) 13 (.var 4)) (.cons (.fld (.var 0) 14 (.var 5)) (.cons (.fld (.var 0) 15 (.var 6)) .nil))))))))
def n_asked : List Str := ["question", "readings", "number", "reading"]
def b_asked : Ss :=
  (.cons (.ret (.lc (.tup (.cons (.var 2) (.cons (.var 3) .nil))) (.tup [2, 3]) (.seq (.var 1)) (.ch2 .le .le (.attr (.var 0) 14) (.attr (.var 3) 5) (.attr (.var 0) 15)) false)) .nil)
def n_Marks_init : List Str := ["self", "left", "barred"]
def b_Marks_init : Ss :=
  (.cons (.fld (.var 0) 16 (.var 1)) (.cons (.fld (.var 0) 17 (.var 2)) .nil))
def n_joined : List Str := ["marks", "left", "barred"]
def b_joined : Ss :=
  (.cons (.iff (.isN (.var 0)) (.cons (.ret (.call e_Marks (.cons (.var 1) (.cons (.var 2) .nil)) .nil)) .nil) .nil) (.cons (.ret (.call e_Marks (.cons (.bi .max (.cons (.attr (.var 0) 16) (.cons (.var 1) .nil))) (.cons (.op .add (.attr (.var 0) 17) (.var 2)) .nil)) .nil)) .nil))
def n_step_right : List Str := ["used", "step", "marks", "honest", "at", "many", "tree", "following", "name", "suspects", "number"]
def b_step_right : Ss :=
  (.cons (.asgT [6, 7] (.var 1)) (.cons (.iff (.or (.not (.ch2 .le .lt (.int 0) (.var 6) (.bi .len (.cons (.var 0) .nil)))) (.or (.isN (.idx (.var 0) (.var 6))) (.bi .any (.cons (.lc (.cmp .isin (.var 8) (.attr (.var 2) 17)) (.one 8) (.seq (.idx (.var 0) (.var 6))) (.bl true) false) .nil)))) (.cons (.ret (.bl false)) .nil) .nil) (.cons (.iff (.cmp .eq (.attr (.var 2) 16) (.int 0)) (.cons (.ret (.cmp .eq (.bi .len (.cons (.var 7) .nil)) (.int 0))) .nil) .nil) (.cons (.asg 9 (.lc (.var 8) (.one 8) (.seq (.idx (.var 0) (.var 6))) (.cmp .notin (.var 8) (.var 3)) false)) (.cons (.ret (.and (.cmp .eq (.bi .len (.cons (.var 7) .nil)) (.bi .len (.cons (.var 9) .nil))) (.bi .all (.cons (.lc (.ch2 .lt .lt (.var 4) (.var 10) (.var 5)) (.one 10) (.seq (.var 7)) (.bl true) false) .nil)))) .nil)))))
def n_blames_right : List Str := ["used", "steps", "honest", "liars", "rows", "at", "step", "marks", "suspects", "name", "number"]
def b_blames_right : Ss :=
  (.cons (.iff (.cmp .eq (.bi .len (.cons (.var 1) .nil)) (.int 0)) (.cons (.ret (.bl false)) .nil) .nil) (.cons (.asg 4 (.repM .non (.bi .len (.cons (.var 1) .nil)))) (.cons (.asgX (.var 4) (.int 0) (.call e_Marks (.cons (.var 3) (.cons (.tup .nil) .nil)) .nil)) (.cons (.forr (.tup [5, 6]) (.enum (.var 1)) (.cons (.asg 7 (.idx (.var 4) (.var 5))) (.cons (.iff (.notN (.var 7)) (.cons (.iff (.not (.call e_step_right (.cons (.var 0) (.cons (.var 6) (.cons (.var 7) (.cons (.var 2) (.cons (.var 5) (.cons (.bi .len (.cons (.var 1) .nil)) .nil)))))) .nil)) (.cons (.ret (.bl false)) .nil) .nil) (.cons (.asg 8 (.lc (.var 9) (.one 9) (.seq (.idx (.var 0) (.idx (.var 6) (.int 0)))) (.cmp .notin (.var 9) (.var 2)) false)) (.cons (.forr (.tup [9, 10]) (.zip (.var 8) (.idx (.var 6) (.int 1))) (.cons (.asgX (.var 4) (.var 10) (.call e_joined (.cons (.idx (.var 4) (.var 10)) (.cons (.op .sub (.attr (.var 7) 16) (.int 1)) (.cons (.op .add (.attr (.var 7) 17) (.tup (.cons (.var 9) .nil))) .nil))) .nil)) .nil)) .nil))) .nil) .nil))) (.cons (.ret (.bl true)) .nil)))))
def n_root_down : List Str := ["number"]
def b_root_down : Ss :=
  (.cons (.ret (.bi .isqrt (.cons (.var 0) .nil))) .nil)
def n_root_up : List Str := ["number", "root"]
def b_root_up : Ss :=
  (.cons (.asg 1 (.bi .isqrt (.cons (.var 0) .nil))) (.cons (.iff (.cmp .lt (.op .mul (.var 1) (.var 1)) (.var 0)) (.cons (.ret (.op .add (.var 1) (.int 1))) .nil) .nil) (.cons (.ret (.var 1)) .nil)))
def n_middle : List Str := ["box", "low", "high"]
def b_middle : Ss :=
  (.cons (.ret (.bi .tuple (.cons (.lc (.op .fdiv (.op .add (.var 1) (.var 2)) (.int 2)) (.tup [1, 2]) (.seq (.var 0)) (.bl true) false) .nil))) .nil)
def n_half_side : List Str := ["side"]
def b_half_side : Ss :=
  (.cons (.ret (.op .fdiv (.op .add (.op .sub (.idx (.var 0) (.int 1)) (.idx (.var 0) (.int 0))) (.int 1)) (.int 2))) .nil)
def n_radius : List Str := ["box", "side"]
def b_radius : Ss :=
  (.cons (.ret (.call e_root_up (.cons (.bi .sum (.cons (.lc (.op .mul (.call e_half_side (.cons (.var 1) .nil) .nil) (.call e_half_side (.cons (.var 1) .nil) .nil)) (.one 1) (.seq (.slHi (.var 0) (.neg (.int 1)))) (.bl true) false) .nil)) .nil) .nil)) .nil)
def n_inside : List Str := ["box", "other", "here", "there"]
def b_inside : Ss :=
  (.cons (.ret (.bi .all (.cons (.lc (.and (.cmp .le (.idx (.var 3) (.int 0)) (.idx (.var 2) (.int 0))) (.cmp .le (.idx (.var 2) (.int 1)) (.idx (.var 3) (.int 1)))) (.tup [2, 3]) (.zip (.var 0) (.var 1)) (.bl true) false) .nil))) .nil)
def n_is_small : List Str := ["box", "share", "low", "high"]
def b_is_small : Ss :=
  (.cons (.ret (.bi .all (.cons (.lc (.cmp .le (.op .sub (.var 3) (.var 2)) (.var 1)) (.tup [2, 3]) (.seq (.var 0)) (.bl true) false) .nil))) .nil)
def n_widest : List Str := ["box", "best", "axis"]
def b_widest : Ss :=
  (.cons (.asg 1 (.int 0)) (.cons (.forr (.one 2) (.rng2 (.int 1) (.bi .len (.cons (.var 0) .nil))) (.cons (.iff (.cmp .gt (.op .sub (.idx (.idx (.var 0) (.var 2)) (.int 1)) (.idx (.idx (.var 0) (.var 2)) (.int 0))) (.op .sub (.idx (.idx (.var 0) (.var 1)) (.int 1)) (.idx (.idx (.var 0) (.var 1)) (.int 0)))) (.cons (.asg 1 (.var 2)) .nil) .nil) .nil)) (.cons (.ret (.var 1)) .nil)))
def n_cut : List Str := ["box", "axis", "place", "low", "high", "first"]
def b_cut : Ss :=
  (.cons (.iff (.or (.not (.ch2 .le .lt (.int 0) (.var 1) (.bi .len (.cons (.var 0) .nil)))) (.not (.ch2 .lt .lt (.idx (.idx (.var 0) (.var 1)) (.int 0)) (.var 2) (.idx (.idx (.var 0) (.var 1)) (.int 1))))) (.cons (.ret .non) .nil) .nil) (.cons (.asgT [3, 4] (.idx (.var 0) (.var 1))) (.cons (.asg 5 (.op .add (.op .add (.slHi (.var 0) (.var 1)) (.tup (.cons (.tup (.cons (.var 3) (.cons (.var 2) .nil))) .nil))) (.slLo (.var 0) (.op .add (.var 1) (.int 1))))) (.cons (.ret (.tup (.cons (.var 5) (.cons (.op .add (.op .add (.slHi (.var 0) (.var 1)) (.tup (.cons (.tup (.cons (.var 2) (.cons (.var 4) .nil))) .nil))) (.slLo (.var 0) (.op .add (.var 1) (.int 1)))) .nil)))) .nil))))
def n_halves : List Str := ["box", "axis"]
def b_halves : Ss :=
  (.cons (.asg 1 (.call e_widest (.cons (.var 0) .nil) .nil)) (.cons (.ret (.call e_cut (.cons (.var 0) (.cons (.var 1) (.cons (.op .fdiv (.op .add (.idx (.idx (.var 0) (.var 1)) (.int 0)) (.idx (.idx (.var 0) (.var 1)) (.int 1))) (.int 2)) .nil))) .nil)) .nil))
def n_nearest : List Str := ["point", "box", "square", "number", "side", "gap"]
def b_nearest : Ss :=
  (.cons (.asg 2 (.int 0)) (.cons (.forr (.tup [3, 4]) (.zip (.var 0) (.var 1)) (.cons (.asg 5 (.bi .max (.cons (.op .sub (.idx (.var 4) (.int 0)) (.var 3)) (.cons (.op .sub (.var 3) (.idx (.var 4) (.int 1))) (.cons (.int 0) .nil))))) (.cons (.aug 2 (.op .mul (.var 5) (.var 5))) .nil))) (.cons (.ret (.var 2)) .nil)))
def n_farthest : List Str := ["point", "box", "square", "number", "side", "gap"]
def b_farthest : Ss :=
  (.cons (.asg 2 (.int 0)) (.cons (.forr (.tup [3, 4]) (.zip (.var 0) (.var 1)) (.cons (.asg 5 (.bi .max (.cons (.bi .abs (.cons (.op .sub (.idx (.var 4) (.int 0)) (.var 3)) .nil)) (.cons (.bi .abs (.cons (.op .sub (.idx (.var 4) (.int 1)) (.var 3)) .nil)) .nil)))) (.cons (.aug 2 (.op .mul (.var 5) (.var 5))) .nil))) (.cons (.ret (.var 2)) .nil)))
def n_distances : List Str := ["point", "box"]
def b_distances : Ss :=
  (.cons (.ret (.tup (.cons (.call e_root_down (.cons (.call e_nearest (.cons (.var 0) (.cons (.var 1) .nil)) .nil) .nil) .nil) (.cons (.call e_root_up (.cons (.call e_farthest (.cons (.var 0) (.cons (.var 1) .nil)) .nil) .nil) .nil) .nil)))) .nil)
def n_dot : List Str := ["one", "two", "a", "b"]
def b_dot : Ss :=
  (.cons (.ret (.bi .sum (.cons (.lc (.op .mul (.var 2) (.var 3)) (.tup [2, 3]) (.zip (.var 0) (.var 1)) (.bl true) false) .nil))) .nil)
def n_minus : List Str := ["one", "two", "a", "b"]
def b_minus : Ss :=
  (.cons (.ret (.bi .tuple (.cons (.lc (.op .sub (.var 2) (.var 3)) (.tup [2, 3]) (.zip (.var 0) (.var 1)) (.bl true) false) .nil))) .nil)
def n_from_piece : List Str := ["point", "at", "to", "along", "way", "reached", "whole", "square", "beyond"]
def b_from_piece : Ss :=
  (.cons (.asg 3 (.call e_minus (.cons (.var 2) (.cons (.var 1) .nil)) .nil)) (.cons (.asg 4 (.call e_minus (.cons (.var 0) (.cons (.var 1) .nil)) .nil)) (.cons (.asg 5 (.call e_dot (.cons (.var 4) (.cons (.var 3) .nil)) .nil)) (.cons (.asg 6 (.call e_dot (.cons (.var 3) (.cons (.var 3) .nil)) .nil)) (.cons (.iff (.cmp .le (.var 5) (.int 0)) (.cons (.asg 7 (.call e_dot (.cons (.var 4) (.cons (.var 4) .nil)) .nil)) (.cons (.ret (.tup (.cons (.var 7) (.cons (.var 7) .nil)))) .nil)) .nil) (.cons (.iff (.cmp .ge (.var 5) (.var 6)) (.cons (.asg 8 (.call e_minus (.cons (.var 0) (.cons (.var 2) .nil)) .nil)) (.cons (.asg 7 (.call e_dot (.cons (.var 8) (.cons (.var 8) .nil)) .nil)) (.cons (.ret (.tup (.cons (.var 7) (.cons (.var 7) .nil)))) .nil))) .nil) (.cons (.asg 7 (.op .sub (.op .mul (.call e_dot (.cons (.var 4) (.cons (.var 4) .nil)) .nil) (.var 6)) (.op .mul (.var 5) (.var 5)))) (.cons (.ret (.tup (.cons (.op .fdiv (.var 7) (.var 6)) (.cons (.neg (.op .fdiv (.neg (.var 7)) (.var 6))) .nil)))) .nil))))))))
def n_side_span : List Str := ["direction", "box", "least", "number", "side"]
def b_side_span : Ss :=
  (.cons (.asg 2 (.bi .sum (.cons (.lc (.bi .min (.cons (.op .mul (.var 3) (.idx (.var 4) (.int 0))) (.cons (.op .mul (.var 3) (.idx (.var 4) (.int 1))) .nil))) (.tup [3, 4]) (.zip (.var 0) (.var 1)) (.bl true) false) .nil))) (.cons (.ret (.tup (.cons (.var 2) (.cons (.bi .sum (.cons (.lc (.bi .max (.cons (.op .mul (.var 3) (.idx (.var 4) (.int 0))) (.cons (.op .mul (.var 3) (.idx (.var 4) (.int 1))) .nil))) (.tup [3, 4]) (.zip (.var 0) (.var 1)) (.bl true) false) .nil)) .nil)))) .nil))
def n_between : List Str := ["box", "other", "square", "side", "there", "gap"]
def b_between : Ss :=
  (.cons (.asg 2 (.int 0)) (.cons (.forr (.tup [3, 4]) (.zip (.var 0) (.var 1)) (.cons (.asg 5 (.bi .max (.cons (.op .sub (.idx (.var 4) (.int 0)) (.idx (.var 3) (.int 1))) (.cons (.op .sub (.idx (.var 3) (.int 0)) (.idx (.var 4) (.int 1))) (.cons (.int 0) .nil))))) (.cons (.aug 2 (.op .mul (.var 5) (.var 5))) .nil))) (.cons (.ret (.var 2)) .nil)))
def n_greatest_from : List Str := ["box", "other", "square", "side", "there", "gap"]
def b_greatest_from : Ss :=
  (.cons (.asg 2 (.int 0)) (.cons (.forr (.tup [3, 4]) (.zip (.var 0) (.var 1)) (.cons (.asg 5 (.bi .max (.cons (.op .sub (.idx (.var 4) (.int 0)) (.idx (.var 3) (.int 0))) (.cons (.op .sub (.idx (.var 3) (.int 0)) (.idx (.var 4) (.int 1))) (.cons (.op .sub (.idx (.var 4) (.int 0)) (.idx (.var 3) (.int 1))) (.cons (.op .sub (.idx (.var 3) (.int 1)) (.idx (.var 4) (.int 1))) (.cons (.int 0) .nil))))))) (.cons (.aug 2 (.op .mul (.var 5) (.var 5))) .nil))) (.cons (.ret (.var 2)) .nil)))
def n_span : List Str := ["kind", "box", "place", "least", "greatest", "low", "high", "other"]
def b_span : Ss :=
  (.cons (.asg 2 (.slHi (.var 1) (.neg (.int 1)))) (.cons (.iff (.cmp .eq (.idx (.var 0) (.int 0)) (.str "range")) (.cons (.ret (.call e_distances (.cons (.idx (.var 0) (.int 1)) (.cons (.var 2) .nil)) .nil)) .nil) .nil) (.cons (.iff (.cmp .eq (.idx (.var 0) (.int 0)) (.str "clocked")) (.cons (.asgT [3, 4] (.call e_distances (.cons (.idx (.var 0) (.int 1)) (.cons (.var 2) .nil)) .nil)) (.cons (.ret (.tup (.cons (.op .add (.var 3) (.idx (.idx (.var 1) (.neg (.int 1))) (.int 0))) (.cons (.op .add (.var 4) (.idx (.idx (.var 1) (.neg (.int 1))) (.int 1))) .nil)))) .nil)) .nil) (.cons (.iff (.cmp .eq (.idx (.var 0) (.int 0)) (.str "differ")) (.cons (.asgT [3, 4] (.call e_distances (.cons (.idx (.var 0) (.int 1)) (.cons (.var 2) .nil)) .nil)) (.cons (.asgT [5, 6] (.call e_distances (.cons (.idx (.var 0) (.int 2)) (.cons (.var 2) .nil)) .nil)) (.cons (.ret (.tup (.cons (.op .sub (.var 3) (.var 6)) (.cons (.op .sub (.var 4) (.var 5)) .nil)))) .nil))) .nil) (.cons (.iff (.cmp .eq (.idx (.var 0) (.int 0)) (.str "side")) (.cons (.ret (.call e_side_span (.cons (.idx (.var 0) (.int 1)) (.cons (.var 2) .nil)) .nil)) .nil) .nil) (.cons (.iff (.cmp .eq (.idx (.var 0) (.int 0)) (.str "piece")) (.cons (.asgT [5, 6] (.call e_from_piece (.cons (.slHi (.call e_middle (.cons (.var 1) .nil) .nil) (.neg (.int 1))) (.cons (.idx (.var 0) (.int 1)) (.cons (.idx (.var 0) (.int 2)) .nil))) .nil)) (.cons (.ret (.tup (.cons (.op .sub (.call e_root_down (.cons (.var 5) .nil) .nil) (.call e_radius (.cons (.var 1) .nil) .nil)) (.cons (.op .add (.call e_root_up (.cons (.var 6) .nil) .nil) (.call e_radius (.cons (.var 1) .nil) .nil)) .nil)))) .nil)) .nil) (.cons (.asg 3 (.bi .min (.cons (.lc (.call e_between (.cons (.var 2) (.cons (.var 7) .nil)) .nil) (.one 7) (.seq (.idx (.var 0) (.int 1))) (.bl true) false) .nil))) (.cons (.ret (.tup (.cons (.call e_root_down (.cons (.var 3) .nil) .nil) (.cons (.call e_root_up (.cons (.bi .min (.cons (.lc (.call e_greatest_from (.cons (.var 2) (.cons (.var 7) .nil)) .nil) (.one 7) (.seq (.idx (.var 0) (.int 1))) (.bl true) false) .nil)) .nil) .nil) .nil)))) .nil))))))))
def n_reach : List Str := ["setting", "ticks"]
def b_reach : Ss :=
  (.cons (.ret (.neg (.op .fdiv (.op .mul (.neg (.attr (.var 0) 1)) (.var 1)) (.attr (.var 0) 3)))) .nil)
def n_slip : List Str := ["setting", "ticks"]
def b_slip : Ss :=
  (.cons (.ret (.neg (.op .fdiv (.op .mul (.neg (.attr (.var 0) 2)) (.var 1)) (.attr (.var 0) 3)))) .nil)
def n_farther : List Str := ["setting", "ticks", "box", "other", "far", "clock"]
def b_farther : Ss :=
  (.cons (.asg 4 (.op .mul (.attr (.var 0) 1) (.var 1))) (.cons (.iff (.cmp .gt (.op .mul (.op .mul (.attr (.var 0) 3) (.attr (.var 0) 3)) (.call e_between (.cons (.slHi (.var 2) (.neg (.int 1))) (.cons (.slHi (.var 3) (.neg (.int 1))) .nil)) .nil)) (.op .mul (.var 4) (.var 4))) (.cons (.ret (.bl true)) .nil) .nil) (.cons (.asg 5 (.bi .max (.cons (.op .sub (.idx (.idx (.var 3) (.neg (.int 1))) (.int 0)) (.idx (.idx (.var 2) (.neg (.int 1))) (.int 1))) (.cons (.op .sub (.idx (.idx (.var 2) (.neg (.int 1))) (.int 0)) (.idx (.idx (.var 3) (.neg (.int 1))) (.int 1))) (.cons (.int 0) .nil))))) (.cons (.ret (.cmp .gt (.op .mul (.attr (.var 0) 3) (.var 5)) (.op .mul (.attr (.var 0) 2) (.var 1)))) .nil))))
def n_widened : List Str := ["setting", "ticks", "box", "far", "late", "sides", "low", "high"]
def b_widened : Ss :=
  (.cons (.asg 3 (.call e_reach (.cons (.var 0) (.cons (.var 1) .nil)) .nil)) (.cons (.asg 4 (.call e_slip (.cons (.var 0) (.cons (.var 1) .nil)) .nil)) (.cons (.asg 5 (.lc (.tup (.cons (.op .sub (.var 6) (.var 3)) (.cons (.op .add (.var 7) (.var 3)) .nil))) (.tup [6, 7]) (.seq (.slHi (.var 2) (.neg (.int 1)))) (.bl true) false)) (.cons (.ret (.bi .tuple (.cons (.op .add (.var 5) (.lst (.cons (.tup (.cons (.op .sub (.idx (.idx (.var 2) (.neg (.int 1))) (.int 0)) (.var 4)) (.cons (.op .add (.idx (.idx (.var 2) (.neg (.int 1))) (.int 1)) (.var 4)) .nil))) .nil))) .nil))) .nil))))
def n_rate : List Str := ["kind"]
def b_rate : Ss :=
  (.cons (.iff (.cmp .eq (.idx (.var 0) (.int 0)) (.str "differ")) (.cons (.ret (.int 2)) .nil) .nil) (.cons (.iff (.cmp .eq (.idx (.var 0) (.int 0)) (.str "side")) (.cons (.ret (.call e_root_up (.cons (.call e_dot (.cons (.idx (.var 0) (.int 1)) (.cons (.idx (.var 0) (.int 1)) .nil)) .nil) .nil) .nil)) .nil) .nil) (.cons (.ret (.int 1)) .nil)))
def n_clock_rate : List Str := ["kind"]
def b_clock_rate : Ss :=
  (.cons (.ret (.ife (.cmp .eq (.idx (.var 0) (.int 0)) (.str "clocked")) (.int 1) (.int 0))) .nil)
def n_moved : List Str := ["kind"]
def b_moved : Ss :=
  (.cons (.iff (.cmp .eq (.idx (.var 0) (.int 0)) (.str "side")) (.cons (.ret (.int 0)) .nil) .nil) (.cons (.ret (.ife (.cmp .eq (.idx (.var 0) (.int 0)) (.str "differ")) (.int 2) (.int 1))) .nil))
def n_carried : List Str := ["setting", "reading", "moment", "ticks", "kind", "going"]
def b_carried : Ss :=
  (.cons (.asg 3 (.op .add (.attr (.var 1) 9) (.bi .abs (.cons (.op .sub (.attr (.var 1) 5) (.var 2)) .nil)))) (.cons (.asg 4 (.attr (.var 1) 6)) (.cons (.asg 5 (.op .add (.op .mul (.call e_rate (.cons (.var 4) .nil) .nil) (.call e_reach (.cons (.var 0) (.cons (.var 3) .nil)) .nil)) (.op .mul (.call e_clock_rate (.cons (.var 4) .nil) .nil) (.call e_slip (.cons (.var 0) (.cons (.var 3) .nil)) .nil)))) (.cons (.ret (.op .add (.op .mul (.call e_moved (.cons (.var 4) .nil) .nil) (.attr (.var 1) 10)) (.var 5))) .nil))))
def n_excludes : List Str := ["setting", "reading", "moment", "box", "more", "least", "greatest"]
def b_excludes : Ss :=
  (.cons (.asg 4 (.call e_carried (.cons (.var 0) (.cons (.var 1) (.cons (.var 2) .nil))) .nil)) (.cons (.asgT [5, 6] (.call e_span (.cons (.attr (.var 1) 6) (.cons (.var 3) .nil)) .nil)) (.cons (.ret (.or (.cmp .lt (.op .add (.var 6) (.var 4)) (.attr (.var 1) 7)) (.cmp .gt (.var 5) (.op .add (.attr (.var 1) 8) (.var 4))))) .nil)))
def n_Held_init : List Str := ["self", "moment", "cover", "used"]
def b_Held_init : Ss :=
  (.cons (.fld (.var 0) 5 (.var 1)) (.cons (.fld (.var 0) 18 (.var 2)) (.cons (.fld (.var 0) 19 (.var 3)) .nil)))
def n_by_reading : List Str := ["setting", "readings", "number", "moment", "box", "at", "reading"]
def b_by_reading : Ss :=
  (.cons (.forr (.tup [5, 6]) (.seq (.var 1)) (.cons (.iff (.cmp .eq (.var 5) (.var 2)) (.cons (.iff (.call e_excludes (.cons (.var 0) (.cons (.var 6) (.cons (.var 3) (.cons (.var 4) .nil)))) .nil) (.cons (.ret (.tup (.cons (.attr (.var 6) 4) .nil))) .nil) .nil) (.cons (.ret .non) .nil)) .nil) .nil)) (.cons (.ret .non) .nil))
def n_by_known : List Str := ["setting", "held", "place", "moment", "box", "thing", "ticks", "other"]
def b_by_known : Ss :=
  (.cons (.iff (.not (.ch2 .le .lt (.int 0) (.var 2) (.bi .len (.cons (.var 1) .nil)))) (.cons (.ret .non) .nil) .nil) (.cons (.asg 5 (.idx (.var 1) (.var 2))) (.cons (.asg 6 (.bi .abs (.cons (.op .sub (.var 3) (.attr (.var 5) 5)) .nil))) (.cons (.iff (.bi .all (.cons (.lc (.call e_farther (.cons (.var 0) (.cons (.var 6) (.cons (.var 7) (.cons (.var 4) .nil)))) .nil) (.one 7) (.seq (.attr (.var 5) 18)) (.bl true) false) .nil)) (.cons (.ret (.attr (.var 5) 19)) .nil) .nil) (.cons (.ret .non) .nil)))))
def n_by_kept : List Str := ["keep", "place", "box"]
def b_by_kept : Ss :=
  (.cons (.iff (.and (.ch2 .le .lt (.int 0) (.var 1) (.bi .len (.cons (.var 0) .nil))) (.call e_inside (.cons (.var 2) (.cons (.idx (.var 0) (.var 1)) .nil)) .nil)) (.cons (.ret (.tup .nil)) .nil) .nil) (.cons (.ret .non) .nil))
def n_by_step : List Str := ["setting", "readings", "held", "keep", "moment", "step", "box"]
def b_by_step : Ss :=
  (.cons (.iff (.cmp .eq (.idx (.var 5) (.int 0)) (.str "reading")) (.cons (.ret (.call e_by_reading (.cons (.var 0) (.cons (.var 1) (.cons (.idx (.var 5) (.int 1)) (.cons (.var 4) (.cons (.var 6) .nil))))) .nil)) .nil) .nil) (.cons (.iff (.cmp .eq (.idx (.var 5) (.int 0)) (.str "known")) (.cons (.ret (.call e_by_known (.cons (.var 0) (.cons (.var 2) (.cons (.idx (.var 5) (.int 1)) (.cons (.var 4) (.cons (.var 6) .nil))))) .nil)) .nil) .nil) (.cons (.ret (.call e_by_kept (.cons (.var 3) (.cons (.idx (.var 5) (.int 1)) (.cons (.var 6) .nil))) .nil)) .nil)))
def n_judge_tree : List Str := ["setting", "readings", "held", "keep", "moment", "tree", "box", "used", "rows", "step", "part", "deep", "parts", "found", "name"]
def b_judge_tree : Ss :=
  (.cons (.asg 7 (.lstM .nil)) (.cons (.asg 8 (.lstM (.cons (.tup (.cons (.var 6) (.cons (.int 0) .nil))) .nil))) (.cons (.forr (.one 9) (.seq (.var 5)) (.cons (.iff (.not (.var 8)) (.cons (.ret .non) .nil) .nil) (.cons (.asgT [10, 11] (.pop (.var 8))) (.cons (.iff (.cmp .eq (.idx (.var 9) (.int 0)) (.str "cut")) (.cons (.asg 12 (.call e_cut (.cons (.var 10) (.cons (.idx (.var 9) (.int 1)) (.cons (.idx (.var 9) (.int 2)) .nil))) .nil)) (.cons (.iff (.or (.isN (.var 12)) (.cmp .ge (.var 11) (.glob 7))) (.cons (.ret .non) .nil) .nil) (.cons (.app (.var 8) (.tup (.cons (.idx (.var 12) (.int 1)) (.cons (.op .add (.var 11) (.int 1)) .nil)))) (.cons (.app (.var 8) (.tup (.cons (.idx (.var 12) (.int 0)) (.cons (.op .add (.var 11) (.int 1)) .nil)))) .nil)))) (.cons (.asg 13 (.call e_by_step (.cons (.var 0) (.cons (.var 1) (.cons (.var 2) (.cons (.var 3) (.cons (.var 4) (.cons (.var 9) (.cons (.var 10) .nil))))))) .nil)) (.cons (.iff (.isN (.var 13)) (.cons (.ret .non) .nil) .nil) (.cons (.forr (.one 14) (.seq (.var 13)) (.cons (.iff (.cmp .notin (.var 14) (.var 7)) (.cons (.app (.var 7) (.var 14)) .nil) .nil) .nil)) .nil)))) .nil)))) (.cons (.iff (.var 8) (.cons (.ret .non) .nil) .nil) (.cons (.ret (.bi .tuple (.cons (.var 7) .nil))) .nil)))))
def n_Known_init : List Str := ["self", "moment", "cover", "tree"]
def b_Known_init : Ss :=
  (.cons (.fld (.var 0) 5 (.var 1)) (.cons (.fld (.var 0) 18 (.var 2)) (.cons (.fld (.var 0) 20 (.var 3)) .nil)))
def n_Paper_init : List Str := ["self", "known", "trees", "steps"]
def b_Paper_init : Ss :=
  (.cons (.fld (.var 0) 21 (.var 1)) (.cons (.fld (.var 0) 22 (.var 2)) (.cons (.fld (.var 0) 23 (.var 3)) .nil)))
def n_root_at : List Str := ["setting", "question", "moment"]
def b_root_at : Ss :=
  (.cons (.ret (.call e_widened (.cons (.var 0) (.cons (.bi .abs (.cons (.op .sub (.var 2) (.attr (.var 1) 5)) .nil)) (.cons (.attr (.var 1) 11) .nil))) .nil)) .nil)
def n_judge_next : List Str := ["setting", "question", "rows", "held", "thing", "root", "used"]
def b_judge_next : Ss :=
  (.cons (.asg 5 (.call e_root_at (.cons (.var 0) (.cons (.var 1) (.cons (.attr (.var 4) 5) .nil))) .nil)) (.cons (.asg 6 (.call e_judge_tree (.cons (.var 0) (.cons (.var 2) (.cons (.var 3) (.cons (.attr (.var 4) 18) (.cons (.attr (.var 4) 5) (.cons (.attr (.var 4) 20) (.cons (.var 5) .nil))))))) .nil)) (.cons (.iff (.isN (.var 6)) (.cons (.ret .non) .nil) .nil) (.cons (.ret (.call e_Held (.cons (.attr (.var 4) 5) (.cons (.attr (.var 4) 18) (.cons (.var 6) .nil))) .nil)) .nil))))
def n_judge_known : List Str := ["setting", "question", "readings", "known", "rows", "held", "thing", "judged"]
def b_judge_known : Ss :=
  (.cons (.asg 4 (.call e_asked (.cons (.var 1) (.cons (.var 2) .nil)) .nil)) (.cons (.asg 5 (.lstM .nil)) (.cons (.forr (.one 6) (.seq (.var 3)) (.cons (.asg 7 (.call e_judge_next (.cons (.var 0) (.cons (.var 1) (.cons (.var 4) (.cons (.var 5) (.cons (.var 6) .nil))))) .nil)) (.cons (.iff (.isN (.var 7)) (.cons (.ret .non) .nil) .nil) (.cons (.app (.var 5) (.var 7)) .nil)))) (.cons (.ret (.frz (.var 5))) .nil))))
def n_used_by : List Str := ["setting", "question", "readings", "held", "trees", "box", "rows", "tree"]
def b_used_by : Ss :=
  (.cons (.asg 6 (.call e_asked (.cons (.var 1) (.cons (.var 2) .nil)) .nil)) (.cons (.ret (.lc (.call e_judge_tree (.cons (.var 0) (.cons (.var 6) (.cons (.var 3) (.cons (.tup .nil) (.cons (.attr (.var 1) 5) (.cons (.var 7) (.cons (.var 5) .nil))))))) .nil) (.one 7) (.seq (.var 4)) (.bl true) false)) .nil))
def n_judge_paper : List Str := ["setting", "question", "readings", "paper", "box", "honest", "held", "used"]
def b_judge_paper : Ss :=
  (.cons (.asg 6 (.call e_judge_known (.cons (.var 0) (.cons (.var 1) (.cons (.var 2) (.cons (.attr (.var 3) 21) .nil)))) .nil)) (.cons (.iff (.isN (.var 6)) (.cons (.ret (.bl false)) .nil) .nil) (.cons (.asg 7 (.call e_used_by (.cons (.var 0) (.cons (.var 1) (.cons (.var 2) (.cons (.var 6) (.cons (.attr (.var 3) 22) (.cons (.var 4) .nil)))))) .nil)) (.cons (.ret (.call e_blames_right (.cons (.var 7) (.cons (.attr (.var 3) 23) .nil)) (.cons (.var 5) (.cons (.attr (.var 1) 12) .nil)))) .nil))))
def n_Standing_init : List Str := ["self", "must", "cannot", "lies", "tells"]
def b_Standing_init : Ss :=
  (.cons (.fld (.var 0) 24 (.var 1)) (.cons (.fld (.var 0) 25 (.var 2)) (.cons (.fld (.var 0) 26 (.var 3)) (.cons (.fld (.var 0) 27 (.var 4)) .nil))))
def n_with_fewer : List Str := ["question"]
def b_with_fewer : Ss :=
  (.cons (.ret (.call e_Question (.cons (.attr (.var 0) 5) (.cons (.attr (.var 0) 11) .nil)) (.cons (.op .sub (.attr (.var 0) 12) (.int 1)) (.cons (.attr (.var 0) 13) (.cons (.attr (.var 0) 14) (.cons (.attr (.var 0) 15) .nil)))))) .nil)
def n_cannot_lie : List Str := ["setting", "question", "readings", "source", "paper", "others", "number", "reading"]
def b_cannot_lie : Ss :=
  (.cons (.iff (.or (.isN (.var 4)) (.cmp .lt (.attr (.var 1) 12) (.int 1))) (.cons (.ret (.bl false)) .nil) .nil) (.cons (.asg 5 (.lc (.tup (.cons (.var 6) (.cons (.var 7) .nil))) (.tup [6, 7]) (.seq (.var 2)) (.cmp .ne (.attr (.var 7) 4) (.var 3)) false)) (.cons (.ret (.call e_judge_paper_0 (.cons (.var 0) (.cons (.call e_with_fewer (.cons (.var 1) .nil) .nil) (.cons (.var 5) (.cons (.var 4) (.cons (.attr (.var 1) 11) .nil))))) .nil)) .nil)))
def n_shown_in : List Str := ["setting", "question", "readings", "witness"]
def b_shown_in : Ss :=
  (.cons (.ret (.and (.notN (.var 3)) (.call e_judge_witness (.cons (.var 0) (.cons (.var 1) (.cons (.var 2) (.cons (.var 3) (.cons (.attr (.var 1) 11) .nil))))) .nil))) .nil)
def n_standing : List Str := ["setting", "question", "readings", "source", "must", "cannot", "lies", "tells", "has_to", "never", "can", "honest"]
def b_standing : Ss :=
  (.cons (.asg 8 (.and (.notN (.var 4)) (.call e_judge_paper_h (.cons (.var 0) (.cons (.var 1) (.cons (.var 2) (.cons (.var 4) (.cons (.attr (.var 1) 11) .nil))))) (.cons (.tup (.cons (.var 3) .nil)) .nil)))) (.cons (.asg 9 (.call e_cannot_lie (.cons (.var 0) (.cons (.var 1) (.cons (.var 2) (.cons (.var 3) (.cons (.var 5) .nil))))) .nil)) (.cons (.asg 10 (.and (.call e_shown_in (.cons (.var 0) (.cons (.var 1) (.cons (.var 2) (.cons (.var 6) .nil)))) .nil) (.cmp .isin (.var 3) (.attr (.var 6) 12)))) (.cons (.asg 11 (.and (.call e_shown_in (.cons (.var 0) (.cons (.var 1) (.cons (.var 2) (.cons (.var 7) .nil)))) .nil) (.cmp .notin (.var 3) (.attr (.var 7) 12)))) (.cons (.ret (.call e_Standing (.cons (.var 8) (.cons (.var 9) (.cons (.var 10) (.cons (.var 11) .nil)))) .nil)) .nil)))))
def n_suspects : List Str := ["entry", "honest", "name"]
def b_suspects : Ss :=
  (.cons (.ret (.lc (.var 2) (.one 2) (.seq (.var 0)) (.cmp .notin (.var 2) (.var 1)) false)) .nil)
def n_first_unmet : List Str := ["used", "path", "number", "entry", "name"]
def b_first_unmet : Ss :=
  (.cons (.forr (.tup [2, 3]) (.enum (.var 0)) (.cons (.iff (.and (.notN (.var 3)) (.not (.bi .any (.cons (.lc (.cmp .isin (.var 4) (.var 1)) (.one 4) (.seq (.var 3)) (.bl true) false) .nil)))) (.cons (.ret (.var 2)) .nil) .nil) .nil)) (.cons (.ret .non) .nil))
def n_make_steps : List Str := ["used", "honest", "liars", "steps", "found", "number", "following"]
def b_make_steps : Ss :=
  (.cons (.asg 3 (.lstM .nil)) (.cons (.asg 4 (.call e_add_any (.cons (.var 3) (.cons (.var 0) (.cons (.var 1) (.cons (.tup .nil) (.cons (.var 2) .nil))))) .nil)) (.cons (.iff (.notN (.var 4)) (.cons (.ret (.tup (.cons (.str "liars") (.cons (.var 4) .nil)))) .nil) .nil) (.cons (.ret (.tup (.cons (.str "steps") (.cons (.bi .tuple (.cons (.lc (.tup (.cons (.var 5) (.cons (.bi .tuple (.cons (.var 6) .nil)) .nil))) (.tup [5, 6]) (.seqM (.var 3)) (.bl true) false) .nil)) .nil)))) .nil))))
def n_add_steps : List Str := ["steps", "used", "honest", "path", "left", "number", "following", "name", "found"]
def b_add_steps (self : Ent) : Ss :=
  (.cons (.asg 5 (.call e_first_unmet (.cons (.var 1) (.cons (.var 3) .nil)) .nil)) (.cons (.iff (.isN (.var 5)) (.cons (.ret (.var 3)) .nil) .nil) (.cons (.asg 6 (.lstM .nil)) (.cons (.app (.var 0) (.tup (.cons (.var 5) (.cons (.var 6) .nil)))) (.cons (.iff (.cmp .eq (.var 4) (.int 0)) (.cons (.ret .non) .nil) .nil) (.cons (.forr (.one 7) (.seq (.call e_suspects (.cons (.idx (.var 1) (.var 5)) (.cons (.var 2) .nil)) .nil)) (.cons (.app (.var 6) (.bi .len (.cons (.var 0) .nil))) (.cons (.asg 8 (.call self (.cons (.var 0) (.cons (.var 1) (.cons (.var 2) (.cons (.op .add (.var 3) (.tup (.cons (.var 7) .nil))) (.cons (.op .sub (.var 4) (.int 1)) .nil))))) .nil)) (.cons (.iff (.notN (.var 8)) (.cons (.ret (.var 8)) .nil) .nil) .nil)))) (.cons (.ret .non) .nil)))))))
def n_make_paper : List Str := ["setting", "question", "readings", "known", "trees", "box", "honest", "held", "used", "kind", "told"]
def b_make_paper : Ss :=
  (.cons (.asg 7 (.call e_judge_known (.cons (.var 0) (.cons (.var 1) (.cons (.var 2) (.cons (.var 3) .nil)))) .nil)) (.cons (.iff (.isN (.var 7)) (.cons (.ret .non) .nil) .nil) (.cons (.asg 8 (.call e_used_by (.cons (.var 0) (.cons (.var 1) (.cons (.var 2) (.cons (.var 7) (.cons (.var 4) (.cons (.var 5) .nil)))))) .nil)) (.cons (.asgT [9, 10] (.call e_make_steps (.cons (.var 8) .nil) (.cons (.var 6) (.cons (.attr (.var 1) 12) .nil)))) (.cons (.iff (.cmp .eq (.var 9) (.str "liars")) (.cons (.ret (.var 10)) .nil) .nil) (.cons (.ret (.call e_Paper (.cons (.bi .tuple (.cons (.var 3) .nil)) (.cons (.bi .tuple (.cons (.var 4) .nil)) (.cons (.var 10) .nil))) .nil)) .nil))))))
def n_Row_init : List Str := ["self", "names", "before", "after"]
def b_Row_init : Ss :=
  (.cons (.fld (.var 0) 28 (.var 1)) (.cons (.fld (.var 0) 29 (.var 2)) (.cons (.fld (.var 0) 30 (.var 3)) .nil)))
def n_Knowing_init : List Str := ["self", "setting", "question", "readings", "plan"]
def b_Knowing_init : Ss :=
  (.cons (.fld (.var 0) 31 (.var 1)) (.cons (.fld (.var 0) 32 (.var 2)) (.cons (.fld (.var 0) 33 (.var 3)) (.cons (.fld (.var 0) 34 (.var 4)) (.cons (.fld (.var 0) 21 (.lstM .nil)) (.cons (.fld (.var 0) 35 (.lstM .nil)) .nil))))))
def n_far : List Str := ["self", "thing", "moment", "box", "ticks", "other"]
def b_far : Ss :=
  (.cons (.asg 4 (.bi .abs (.cons (.op .sub (.var 2) (.attr (.var 1) 5)) .nil))) (.cons (.forr (.one 5) (.seq (.attr (.var 1) 18)) (.cons (.iff (.not (.call e_farther (.cons (.attr (.var 0) 31) (.cons (.var 4) (.cons (.var 5) (.cons (.var 3) .nil)))) .nil)) (.cons (.ret (.bl false)) .nil) .nil) .nil)) (.cons (.ret (.bl true)) .nil)))
def n_left_out : List Str := ["self", "names", "last", "moment", "box", "number", "reading"]
def b_left_out : Ss :=
  (.cons (.forr (.tup [5, 6]) (.seq (.attr (.var 0) 33)) (.cons (.iff (.and (.cmp .notin (.attr (.var 6) 4) (.var 1)) (.call e_excludes (.cons (.attr (.var 0) 31) (.cons (.var 6) (.cons (.var 3) (.cons (.var 4) .nil)))) .nil)) (.cons (.ret (.tup (.cons (.str "reading") (.cons (.var 5) .nil)))) .nil) .nil) .nil)) (.cons (.iff (.and (.notN (.var 2)) (.meth 9 e_far (.var 0) (.cons (.idx (.attr (.var 0) 35) (.var 2)) (.cons (.var 3) (.cons (.var 4) .nil))))) (.cons (.ret (.tup (.cons (.str "known") (.cons (.var 2) .nil)))) .nil) .nil) (.cons (.ret .non) .nil)))
def t_make_cover_1 : Ss := .cons (.ret (.tup (.cons (.bi .tuple (.cons (.var 4) .nil)) (.cons (.bi .tuple (.cons (.var 5) .nil)) .nil)))) .nil
def t_make_cover_2 : Ss := .cons (.app (.var 4) (.var 9)) .nil
def t_make_cover_3 : Ss := .cons (.app (.var 5) (.var 11)) .nil
def t_make_cover_4 : Ss := .cons (.app (.var 4) (.tup (.cons (.str "kept") (.cons (.bi .len (.cons (.var 5) .nil)) .nil)))) t_make_cover_3
def t_make_cover_5 : Ss := .cons (.app (.var 7) (.tup (.cons (.idx (.var 10) (.int 0)) (.cons (.op .add (.var 12) (.int 1)) .nil)))) .nil
def t_make_cover_6 : Ss := .cons (.app (.var 7) (.tup (.cons (.idx (.var 10) (.int 1)) (.cons (.op .add (.var 12) (.int 1)) .nil)))) t_make_cover_5
def t_make_cover_7 : Ss := .cons (.app (.var 4) (.tup (.cons (.str "cut") (.cons (.var 13) (.cons (.idx (.idx (.idx (.var 10) (.int 0)) (.var 13)) (.int 1)) .nil))))) t_make_cover_6
def t_make_cover_8 : Ss := .cons (.asg 13 (.call e_widest (.cons (.var 11) .nil) .nil)) t_make_cover_7
def t_make_cover_9 : Ss := .cons (.iff (.or (.var 8) (.or (.isN (.var 10)) (.call e_is_small (.cons (.var 11) (.cons (.attr (.attr (.var 0) 34) 37) .nil)) .nil))) t_make_cover_4 t_make_cover_8) .nil
def t_make_cover_10 : Ss := .cons (.iff (.notN (.var 9)) t_make_cover_2 t_make_cover_9) .nil
def t_make_cover_11 : Ss := .cons (.asg 10 (.call e_halves (.cons (.var 11) .nil) .nil)) t_make_cover_10
def t_make_cover_12 : Ss := .cons (.asg 9 (.meth 9 e_left_out (.var 0) (.cons (.var 1) (.cons (.var 2) (.cons (.var 3) (.cons (.var 11) .nil)))))) t_make_cover_11
def t_make_cover_13 : Ss := .cons (.aug 6 (.int 1)) t_make_cover_12
def t_make_cover_14 : Ss := .cons (.asg 8 (.or (.cmp .ge (.var 6) (.op .mul (.glob 9) (.attr (.attr (.var 0) 34) 38))) (.or (.cmp .ge (.var 12) (.glob 8)) (.cmp .ge (.bi .len (.cons (.var 5) .nil)) (.attr (.attr (.var 0) 34) 38))))) t_make_cover_13
def t_make_cover_15 : Ss := .cons (.asgT [11, 12] (.pop (.var 7))) t_make_cover_14
def t_make_cover_16 : Ss := .cons (.whil (.var 7) t_make_cover_15) t_make_cover_1
def t_make_cover_17 : Ss := .cons (.asg 7 (.lstM (.cons (.tup (.cons (.call e_root_at (.cons (.attr (.var 0) 31) (.cons (.attr (.var 0) 32) (.cons (.var 3) .nil))) .nil) (.cons (.int 0) .nil))) .nil))) t_make_cover_16
def t_make_cover_18 : Ss := .cons (.asg 6 (.int 0)) t_make_cover_17
def t_make_cover_19 : Ss := .cons (.asg 5 (.lstM .nil)) t_make_cover_18
def t_make_cover_20 : Ss := .cons (.asg 4 (.lstM .nil)) t_make_cover_19
def n_make_cover : List Str := ["self", "names", "last", "moment", "tree", "kept", "looked", "rows", "last_look", "step", "parts", "box", "cuts", "axis"]
def b_make_cover : Ss :=
  t_make_cover_20
def t_add_1 : Ss := .cons (.ret (.op .sub (.bi .len (.cons (.attr (.var 0) 21) .nil)) (.int 1))) .nil
def t_add_2 : Ss := .cons (.app (.attr (.var 0) 35) (.call e_Held (.cons (.var 3) (.cons (.var 5) (.cons (.var 7) .nil))) .nil)) t_add_1
def t_add_3 : Ss := .cons (.app (.attr (.var 0) 21) (.call e_Known (.cons (.var 3) (.cons (.var 5) (.cons (.var 4) .nil))) .nil)) t_add_2
def t_add_4 : Ss := .cons (.asg 7 (.call e_judge_tree (.cons (.attr (.var 0) 31) (.cons (.attr (.var 0) 33) (.cons (.attr (.var 0) 35) (.cons (.var 5) (.cons (.var 3) (.cons (.var 4) (.cons (.var 6) .nil))))))) .nil)) t_add_3
def t_add_5 : Ss := .cons (.asg 6 (.call e_root_at (.cons (.attr (.var 0) 31) (.cons (.attr (.var 0) 32) (.cons (.var 3) .nil))) .nil)) t_add_4
def t_add_6 : Ss := .cons (.asgT [4, 5] (.meth 9 e_make_cover (.var 0) (.cons (.var 1) (.cons (.var 2) (.cons (.var 3) .nil))))) t_add_5
def n_add : List Str := ["self", "names", "last", "moment", "tree", "kept", "root", "used"]
def b_add : Ss :=
  t_add_6
def n_add_row : List Str := ["self", "names", "moments", "last", "moment"]
def b_add_row : Ss :=
  (.cons (.asg 3 .non) (.cons (.forr (.one 4) (.seq (.var 2)) (.cons (.asg 3 (.meth 9 e_add (.var 0) (.cons (.var 1) (.cons (.var 3) (.cons (.var 4) .nil))))) .nil)) .nil))
def t_know_1 : Ss := .cons (.ret (.tup (.cons (.attr (.var 4) 21) (.cons (.attr (.var 4) 35) (.cons (.var 8) .nil))))) .nil
def t_know_2 : Ss := .cons (.app (.var 8) (.call e_Row (.cons (.var 9) (.cons (.var 12) (.cons (.rev (.slLo (.attr (.var 4) 35) (.var 11))) .nil))) .nil)) .nil
def t_know_3 : Ss := .cons (.asg 12 (.lc (.var 13) (.one 13) (.seq (.rev (.slB (.attr (.var 4) 35) (.var 10) (.var 11)))) (.cmp .lt (.attr (.var 13) 5) (.attr (.var 1) 5)) false)) t_know_2
def t_know_4 : Ss := .cons (.exp (.meth 9 e_add_row (.var 4) (.cons (.var 9) (.cons (.rev (.var 7)) .nil)))) t_know_3
def t_know_5 : Ss := .cons (.asg 11 (.bi .len (.cons (.attr (.var 4) 35) .nil))) t_know_4
def t_know_6 : Ss := .cons (.exp (.meth 9 e_add_row (.var 4) (.cons (.var 9) (.cons (.var 5) .nil)))) t_know_5
def t_know_7 : Ss := .cons (.asg 10 (.bi .len (.cons (.attr (.var 4) 35) .nil))) t_know_6
def t_know_8 : Ss := .cons (.forr (.one 9) (.seq (.attr (.var 3) 39)) t_know_7) t_know_1
def t_know_9 : Ss := .cons (.asg 8 (.lstM .nil)) t_know_8
def t_know_10 : Ss := .cons (.asg 7 (.lc (.var 6) (.one 6) (.seq (.attr (.var 3) 36)) (.cmp .gt (.var 6) (.attr (.var 1) 5)) false)) t_know_9
def t_know_11 : Ss := .cons (.asg 5 (.lc (.var 6) (.one 6) (.seq (.attr (.var 3) 36)) (.cmp .le (.var 6) (.attr (.var 1) 5)) false)) t_know_10
def t_know_12 : Ss := .cons (.asg 4 (.call e_Knowing (.cons (.var 0) (.cons (.var 1) (.cons (.call e_asked (.cons (.var 1) (.cons (.var 2) .nil)) .nil) (.cons (.var 3) .nil)))) .nil)) t_know_11
def n_know : List Str := ["setting", "question", "readings", "plan", "knowing", "early", "moment", "late", "rows", "names", "first", "split", "before", "held"]
def b_know : Ss :=
  t_know_12
def n_Plan_init : List Str := ["self", "moments", "grain", "most", "without", "at"]
def b_Plan_init : Ss :=
  (.cons (.iff (.or (.cmp .gt (.bi .len (.cons (.var 1) .nil)) (.glob 10)) (.or (.cmp .gt (.bi .len (.cons (.var 4) .nil)) (.glob 11)) (.or (.cmp .lt (.var 2) (.int 1)) (.cmp .lt (.var 3) (.int 1))))) (.cons .nev .nil) .nil) (.cons (.forr (.one 5) (.rng2 (.int 1) (.bi .len (.cons (.var 1) .nil))) (.cons (.iff (.cmp .ge (.idx (.var 1) (.op .sub (.var 5) (.int 1))) (.idx (.var 1) (.var 5))) (.cons .nev .nil) .nil) .nil)) (.cons (.fld (.var 0) 36 (.var 1)) (.cons (.fld (.var 0) 37 (.var 2)) (.cons (.fld (.var 0) 38 (.var 3)) (.cons (.fld (.var 0) 39 (.var 4)) .nil))))))
def t_law_rows_1 : Ss := .cons (.ret (.frz (.var 2))) .nil
def t_law_rows_2 : Ss := .cons (.app (.var 2) (.var 4)) .nil
def t_law_rows_3 : Ss := .cons (.asg 4 (.op .mod (.bi .int (.cons (.op .mul (.op .add (.op .add (.var 4) (.op .mul (.int 17) (.var 3))) (.int 3)) (.int 2862933555777941757)) .nil)) (.int 18446744073709551557))) .nil
def t_law_rows_4 : Ss := .cons (.asg 4 (.op .mod (.bi .int (.cons (.op .add (.op .mul (.op .add (.op .add (.var 4) (.op .mul (.int 131) (.var 3))) (.int 7)) (.int 48271)) (.op .mul (.op .mul (.var 3) (.var 3)) (.int 69621))) .nil)) (.int 1000000007))) t_law_rows_3
def t_law_rows_5 : Ss := .cons (.iff (.or (.cmp .ge (.var 3) (.bi .len (.cons (.var 0) .nil))) (.cmp .lt (.var 4) (.int 1000000000))) t_law_rows_4 .nil) t_law_rows_2
def t_law_rows_6 : Ss := .cons (.asg 4 (.op .sub (.int 1) (.op .mul (.int 2) (.var 4)))) .nil
def t_law_rows_7 : Ss := .cons (.iff (.cmp .lt (.var 4) (.int 0)) t_law_rows_6 .nil) t_law_rows_5
def t_law_rows_8 : Ss := .cons (.asg 4 (.bi .int (.cons (.idx (.var 0) (.op .mod (.bi .int (.cons (.var 3) .nil)) (.bi .len (.cons (.var 0) .nil)))) .nil))) .nil
def t_law_rows_9 : Ss := .cons (.iff (.cmp .gt (.bi .len (.cons (.var 0) .nil)) (.int 0)) t_law_rows_8 .nil) t_law_rows_7
def t_law_rows_10 : Ss := .cons (.asg 4 (.int 0)) t_law_rows_9
def t_law_rows_11 : Ss := .cons (.forr (.one 3) (.rng1 (.var 1)) t_law_rows_10) t_law_rows_1
def t_law_rows_12 : Ss := .cons (.asg 2 (.lstM .nil)) t_law_rows_11
def n_law_rows : List Str := ["_law_script", "_law_count", "_law_rows_here", "_law_k", "_law_cell"]
def b_law_rows : Ss :=
  t_law_rows_12
def n_law_root : List Str := ["_law_number", "_law_low", "_law_high", "_law_turn", "_law_half"]
def b_law_root : Ss :=
  (.cons (.asg 1 (.int 0)) (.cons (.asg 2 (.int 1)) (.cons (.forr (.one 3) (.rng1 (.int 400)) (.cons (.iff (.cmp .gt (.op .mul (.var 2) (.var 2)) (.var 0)) (.cons .brk .nil) .nil) (.cons (.asg 2 (.op .mul (.var 2) (.int 2))) .nil))) (.cons (.forr (.one 3) (.rng1 (.int 400)) (.cons (.iff (.cmp .le (.op .sub (.var 2) (.var 1)) (.int 1)) (.cons .brk .nil) .nil) (.cons (.asg 4 (.op .fdiv (.op .add (.var 1) (.var 2)) (.int 2))) (.cons (.iff (.cmp .le (.op .mul (.var 4) (.var 4)) (.var 0)) (.cons (.asg 1 (.var 4)) .nil) (.cons (.asg 2 (.var 4)) .nil)) .nil)))) (.cons (.ret (.var 1)) .nil)))))
def n_law_up : List Str := ["_law_number", "_law_root_here"]
def b_law_up : Ss :=
  (.cons (.asg 1 (.call e_law_root (.cons (.var 0) .nil) .nil)) (.cons (.ret (.op .add (.var 1) (.bi .int (.cons (.cmp .lt (.op .mul (.var 1) (.var 1)) (.var 0)) .nil)))) .nil))
def n_law_digits : List Str := ["_law_row", "_law_base", "_law_count", "_law_digits_here", "_law_turn"]
def b_law_digits : Ss :=
  (.cons (.asg 3 (.lstM .nil)) (.cons (.forr (.one 4) (.rng1 (.var 2)) (.cons (.app (.var 3) (.op .mod (.bi .int (.cons (.var 0) .nil)) (.var 1))) (.cons (.asg 0 (.op .fdiv (.var 0) (.var 1))) .nil))) (.cons (.ret (.frz (.var 3))) .nil)))
def n_law_setting : List Str := ["_law_row", "_law_dims"]
def b_law_setting : Ss :=
  (.cons (.asg 1 (.op .add (.int 2) (.op .mod (.bi .int (.cons (.var 0) .nil)) (.int 2)))) (.cons (.ret (.call e_Setting (.cons (.var 1) .nil) (.cons (.op .mod (.bi .int (.cons (.op .fdiv (.var 0) (.int 2)) .nil)) (.int 9)) (.cons (.op .mod (.bi .int (.cons (.op .fdiv (.var 0) (.int 18)) .nil)) (.int 3)) (.cons (.op .add (.int 1) (.op .mod (.bi .int (.cons (.op .fdiv (.var 0) (.int 54)) .nil)) (.int 3))) .nil))))) .nil))
def n_law_velocity : List Str := ["_law_setting_here", "_law_row", "_law_velocity_here", "_law_digit", "_law_turn", "_law_square_here", "_law_number"]
def b_law_velocity : Ss :=
  (.cons (.asg 2 (.lc (.op .sub (.var 3) (.int 3)) (.one 3) (.seq (.call e_law_digits (.cons (.var 1) (.cons (.int 7) (.cons (.attr (.var 0) 0) .nil))) .nil)) (.bl true) false)) (.cons (.forr (.one 4) (.rng1 (.int 8)) (.cons (.asg 5 (.bi .sum (.cons (.lc (.op .mul (.var 6) (.var 6)) (.one 6) (.seq (.var 2)) (.bl true) false) .nil))) (.cons (.iff (.cmp .le (.op .mul (.op .mul (.attr (.var 0) 3) (.attr (.var 0) 3)) (.var 5)) (.op .mul (.attr (.var 0) 1) (.attr (.var 0) 1))) (.cons .brk .nil) .nil) (.cons (.asg 2 (.lc (.op .mul (.op .fdiv (.bi .abs (.cons (.var 6) .nil)) (.int 2)) (.op .sub (.int 1) (.op .mul (.int 2) (.bi .int (.cons (.cmp .lt (.var 6) (.int 0)) .nil))))) (.one 6) (.seq (.var 2)) (.bl true) false)) .nil)))) (.cons (.ret (.var 2)) .nil)))
def t_law_at_1 : Ss := .cons (.ret (.op .add (.var 12) (.lst (.cons (.op .add (.var 3) (.op .mul (.var 11) (.var 9))) .nil)))) .nil
def t_law_at_2 : Ss := .cons (.asg 12 (.lc (.op .add (.idx (.var 2) (.var 13)) (.op .mul (.idx (.var 10) (.var 13)) (.var 9))) (.one 13) (.rng1 (.bi .len (.cons (.var 2) .nil))) (.bl true) false)) t_law_at_1
def t_law_at_3 : Ss := .cons (.asg 11 (.var 7)) .nil
def t_law_at_4 : Ss := .cons (.asg 10 (.var 5)) t_law_at_3
def t_law_at_5 : Ss := .cons (.iff (.cmp .lt (.var 9) (.int 0)) t_law_at_4 .nil) t_law_at_2
def t_law_at_6 : Ss := .cons (.asg 11 (.var 8)) t_law_at_5
def t_law_at_7 : Ss := .cons (.asg 10 (.var 6)) t_law_at_6
def t_law_at_8 : Ss := .cons (.asg 9 (.op .sub (.var 1) (.var 4))) t_law_at_7
def t_law_at_9 : Ss := .cons (.asgT [2, 3, 4, 5, 6, 7, 8] (.var 0)) t_law_at_8
def n_law_at : List Str := ["_law_way_here", "_law_moment", "_law_place", "_law_clock", "_law_turn_here", "_law_first", "_law_second", "_law_early", "_law_late", "_law_ticks", "_law_going", "_law_rate", "_law_there", "_law_k"]
def b_law_at : Ss :=
  t_law_at_9
def t_law_way_1 : Ss := .cons (.ret (.tup (.cons (.var 2) (.cons (.op .sub (.op .mod (.bi .int (.cons (.op .fdiv (.idx (.var 1) (.int 1)) (.int 256)) .nil)) (.int 9)) (.int 4)) (.cons (.op .sub (.op .mod (.bi .int (.cons (.op .fdiv (.idx (.var 1) (.int 1)) (.int 4096)) .nil)) (.int 9)) (.int 4)) (.cons (.var 7) (.cons (.var 8) (.cons (.var 5) (.cons (.var 6) .nil))))))))) .nil
def t_law_way_2 : Ss := .cons (.asg 8 (.call e_law_velocity (.cons (.var 0) (.cons (.op .fdiv (.idx (.var 1) (.int 2)) (.int 2401)) .nil)) .nil)) t_law_way_1
def t_law_way_3 : Ss := .cons (.asg 7 (.call e_law_velocity (.cons (.var 0) (.cons (.idx (.var 1) (.int 2)) .nil)) .nil)) t_law_way_2
def t_law_way_4 : Ss := .cons (.asg 6 (.op .sub (.op .mod (.bi .int (.cons (.op .fdiv (.idx (.var 1) (.int 1)) (.int 16)) .nil)) (.op .add (.op .mul (.int 2) (.var 4)) (.int 1))) (.var 4))) t_law_way_3
def t_law_way_5 : Ss := .cons (.asg 5 (.op .sub (.op .mod (.bi .int (.cons (.idx (.var 1) (.int 1)) .nil)) (.op .add (.op .mul (.int 2) (.var 4)) (.int 1))) (.var 4))) t_law_way_4
def t_law_way_6 : Ss := .cons (.asg 4 (.op .fdiv (.attr (.var 0) 2) (.attr (.var 0) 3))) t_law_way_5
def t_law_way_7 : Ss := .cons (.asg 2 (.lc (.op .sub (.var 3) (.int 15)) (.one 3) (.seq (.call e_law_digits (.cons (.idx (.var 1) (.int 0)) (.cons (.int 31) (.cons (.attr (.var 0) 0) .nil))) .nil)) (.bl true) false)) t_law_way_6
def n_law_way : List Str := ["_law_setting_here", "_law_rows_here", "_law_place", "_law_digit", "_law_slow", "_law_early", "_law_late", "_law_first", "_law_second"]
def b_law_way : Ss :=
  t_law_way_7
def n_law_square : List Str := ["_law_one", "_law_two", "_law_k"]
def b_law_square : Ss :=
  (.cons (.ret (.bi .sum (.cons (.lc (.op .mul (.op .sub (.idx (.var 0) (.var 2)) (.idx (.var 1) (.var 2))) (.op .sub (.idx (.var 0) (.var 2)) (.idx (.var 1) (.var 2)))) (.one 2) (.rng1 (.bi .len (.cons (.var 0) .nil))) (.bl true) false) .nil))) .nil)
def t_law_piece_1 : Ss := .cons (.ret (.tup (.cons (.op .fdiv (.var 9) (.var 6)) (.cons (.op .sub (.int 0) (.op .fdiv (.op .sub (.int 0) (.var 9)) (.var 6))) .nil)))) .nil
def t_law_piece_2 : Ss := .cons (.asg 9 (.op .sub (.op .mul (.bi .sum (.cons (.lc (.op .mul (.var 7) (.var 7)) (.one 7) (.seq (.var 5)) (.bl true) false) .nil)) (.var 6)) (.op .mul (.var 8) (.var 8)))) t_law_piece_1
def t_law_piece_3 : Ss := .cons (.ret (.tup (.cons (.call e_law_square (.cons (.var 0) (.cons (.var 2) .nil)) .nil) (.cons (.call e_law_square (.cons (.var 0) (.cons (.var 2) .nil)) .nil) .nil)))) .nil
def t_law_piece_4 : Ss := .cons (.iff (.cmp .ge (.var 8) (.var 6)) t_law_piece_3 .nil) t_law_piece_2
def t_law_piece_5 : Ss := .cons (.ret (.tup (.cons (.call e_law_square (.cons (.var 0) (.cons (.var 1) .nil)) .nil) (.cons (.call e_law_square (.cons (.var 0) (.cons (.var 1) .nil)) .nil) .nil)))) .nil
def t_law_piece_6 : Ss := .cons (.iff (.cmp .le (.var 8) (.int 0)) t_law_piece_5 .nil) t_law_piece_4
def t_law_piece_7 : Ss := .cons (.asg 8 (.bi .sum (.cons (.lc (.op .mul (.idx (.var 5) (.var 4)) (.idx (.var 3) (.var 4))) (.one 4) (.rng1 (.bi .len (.cons (.var 1) .nil))) (.bl true) false) .nil))) t_law_piece_6
def t_law_piece_8 : Ss := .cons (.asg 6 (.bi .sum (.cons (.lc (.op .mul (.var 7) (.var 7)) (.one 7) (.seq (.var 3)) (.bl true) false) .nil))) t_law_piece_7
def t_law_piece_9 : Ss := .cons (.asg 5 (.lc (.op .sub (.idx (.var 0) (.var 4)) (.idx (.var 1) (.var 4))) (.one 4) (.rng1 (.bi .len (.cons (.var 1) .nil))) (.bl true) false)) t_law_piece_8
def t_law_piece_10 : Ss := .cons (.asg 3 (.lc (.op .sub (.idx (.var 2) (.var 4)) (.idx (.var 1) (.var 4))) (.one 4) (.rng1 (.bi .len (.cons (.var 1) .nil))) (.bl true) false)) t_law_piece_9
def n_law_piece : List Str := ["_law_place", "_law_at_here", "_law_to", "_law_along", "_law_k", "_law_way_here", "_law_whole", "_law_number", "_law_reached", "_law_square_here"]
def b_law_piece : Ss :=
  t_law_piece_10
def n_law_boxes : List Str := ["_law_place", "_law_boxes_here", "_law_best", "_law_box", "_law_square_here", "_law_k", "_law_gap"]
def b_law_boxes : Ss :=
  (.cons (.asg 2 (.neg (.int 1))) (.cons (.forr (.one 3) (.seq (.var 1)) (.cons (.asg 4 (.int 0)) (.cons (.forr (.one 5) (.rng1 (.bi .len (.cons (.var 0) .nil))) (.cons (.asg 6 (.bi .max (.cons (.op .sub (.idx (.idx (.var 3) (.var 5)) (.int 0)) (.idx (.var 0) (.var 5))) (.cons (.op .sub (.idx (.var 0) (.var 5)) (.idx (.idx (.var 3) (.var 5)) (.int 1))) (.cons (.int 0) .nil))))) (.cons (.asg 4 (.op .add (.var 4) (.op .mul (.var 6) (.var 6)))) .nil))) (.cons (.iff (.or (.cmp .lt (.var 2) (.int 0)) (.cmp .lt (.var 4) (.var 2))) (.cons (.asg 2 (.var 4)) .nil) .nil) .nil)))) (.cons (.ret (.var 2)) .nil)))
def t_law_value_1 : Ss := .cons (.ret (.tup (.cons (.op .add (.call e_law_root (.cons (.var 7) .nil) .nil) (.var 9)) (.cons (.op .add (.call e_law_up (.cons (.var 7) .nil) .nil) (.var 9)) .nil)))) .nil
def t_law_value_2 : Ss := .cons (.asg 9 (.op .mul (.var 2) (.bi .int (.cons (.cmp .eq (.idx (.var 0) (.int 0)) (.str "clocked")) .nil)))) t_law_value_1
def t_law_value_3 : Ss := .cons (.ret (.tup (.cons (.op .sub (.call e_law_root (.cons (.var 7) .nil) .nil) (.call e_law_up (.cons (.var 8) .nil) .nil)) (.cons (.op .sub (.call e_law_up (.cons (.var 7) .nil) .nil) (.call e_law_root (.cons (.var 8) .nil) .nil)) .nil)))) .nil
def t_law_value_4 : Ss := .cons (.asg 8 (.call e_law_square (.cons (.var 1) (.cons (.idx (.var 0) (.int 2)) .nil)) .nil)) t_law_value_3
def t_law_value_5 : Ss := .cons (.iff (.cmp .eq (.idx (.var 0) (.int 0)) (.str "differ")) t_law_value_4 .nil) t_law_value_2
def t_law_value_6 : Ss := .cons (.asg 7 (.call e_law_square (.cons (.var 1) (.cons (.idx (.var 0) (.int 1)) .nil)) .nil)) t_law_value_5
def t_law_value_7 : Ss := .cons (.ret (.tup (.cons (.call e_law_root (.cons (.var 7) .nil) .nil) (.cons (.call e_law_up (.cons (.var 7) .nil) .nil) .nil)))) .nil
def t_law_value_8 : Ss := .cons (.asg 7 (.call e_law_boxes (.cons (.var 1) (.cons (.idx (.var 0) (.int 1)) .nil)) .nil)) t_law_value_7
def t_law_value_9 : Ss := .cons (.iff (.cmp .eq (.idx (.var 0) (.int 0)) (.str "boxes")) t_law_value_8 .nil) t_law_value_6
def t_law_value_10 : Ss := .cons (.ret (.tup (.cons (.call e_law_root (.cons (.var 5) .nil) .nil) (.cons (.call e_law_up (.cons (.var 6) .nil) .nil) .nil)))) .nil
def t_law_value_11 : Ss := .cons (.asgT [5, 6] (.call e_law_piece (.cons (.var 1) (.cons (.idx (.var 0) (.int 1)) (.cons (.idx (.var 0) (.int 2)) .nil))) .nil)) t_law_value_10
def t_law_value_12 : Ss := .cons (.iff (.cmp .eq (.idx (.var 0) (.int 0)) (.str "piece")) t_law_value_11 .nil) t_law_value_9
def t_law_value_13 : Ss := .cons (.ret (.tup (.cons (.var 3) (.cons (.var 3) .nil)))) .nil
def t_law_value_14 : Ss := .cons (.asg 3 (.bi .sum (.cons (.lc (.op .mul (.idx (.idx (.var 0) (.int 1)) (.var 4)) (.idx (.var 1) (.var 4))) (.one 4) (.rng1 (.bi .len (.cons (.var 1) .nil))) (.bl true) false) .nil))) t_law_value_13
def t_law_value_15 : Ss := .cons (.iff (.cmp .eq (.idx (.var 0) (.int 0)) (.str "side")) t_law_value_14 .nil) t_law_value_12
def n_law_value : List Str := ["_law_kind_here", "_law_place", "_law_clock", "_law_value_here", "_law_k", "_law_low", "_law_high", "_law_square_here", "_law_other", "_law_more"]
def b_law_value : Ss :=
  t_law_value_15
def n_law_point : List Str := ["_law_dims", "_law_row", "_law_digit"]
def b_law_point : Ss :=
  (.cons (.ret (.bi .tuple (.cons (.lc (.op .sub (.var 2) (.int 20)) (.one 2) (.seq (.call e_law_digits (.cons (.var 1) (.cons (.int 41) (.cons (.var 0) .nil))) .nil)) (.bl true) false) .nil))) .nil)
def t_law_kind_1 : Ss := .cons (.ret (.tup (.cons (.var 3) (.cons (.call e_law_point (.cons (.var 0) (.cons (.var 4) .nil)) .nil) .nil)))) .nil
def t_law_kind_2 : Ss := .cons (.ret (.tup (.cons (.var 3) (.cons (.call e_law_point (.cons (.var 0) (.cons (.var 4) .nil)) .nil) (.cons (.call e_law_point (.cons (.var 0) (.cons (.op .fdiv (.var 4) (.int 68921)) .nil)) .nil) .nil))))) .nil
def t_law_kind_3 : Ss := .cons (.iff (.or (.cmp .eq (.var 3) (.str "differ")) (.cmp .eq (.var 3) (.str "piece"))) t_law_kind_2 .nil) t_law_kind_1
def t_law_kind_4 : Ss := .cons (.ret (.tup (.cons (.var 3) (.cons (.bi .tuple (.cons (.var 8) .nil)) .nil)))) .nil
def t_law_kind_5 : Ss := .cons (.app (.var 8) (.bi .tuple (.cons (.lc (.tup (.cons (.var 7) (.cons (.op .add (.var 7) (.op .mod (.bi .int (.cons (.op .fdiv (.var 4) (.int 5)) .nil)) (.int 7))) .nil))) (.one 7) (.seq (.var 10)) (.bl true) false) .nil))) .nil
def t_law_kind_6 : Ss := .cons (.asg 10 (.call e_law_point (.cons (.var 0) (.cons (.op .add (.op .fdiv (.var 4) (.int 2)) (.op .mul (.int 97) (.var 9))) .nil)) .nil)) t_law_kind_5
def t_law_kind_7 : Ss := .cons (.forr (.one 9) (.rng1 (.op .add (.int 1) (.op .mod (.bi .int (.cons (.var 4) .nil)) (.int 2)))) t_law_kind_6) t_law_kind_4
def t_law_kind_8 : Ss := .cons (.asg 8 (.lstM .nil)) t_law_kind_7
def t_law_kind_9 : Ss := .cons (.iff (.cmp .eq (.var 3) (.str "boxes")) t_law_kind_8 .nil) t_law_kind_3
def t_law_kind_10 : Ss := .cons (.ret (.tup (.cons (.var 3) (.cons (.bi .tuple (.cons (.var 5) .nil)) .nil)))) .nil
def t_law_kind_11 : Ss := .cons (.asgX (.var 5) (.int 0) (.int 1)) .nil
def t_law_kind_12 : Ss := .cons (.iff (.cmp .eq (.bi .sum (.cons (.lc (.bi .abs (.cons (.var 7) .nil)) (.one 7) (.seqM (.var 5)) (.bl true) false) .nil)) (.int 0)) t_law_kind_11 .nil) t_law_kind_10
def t_law_kind_13 : Ss := .cons (.asg 5 (.lc (.op .sub (.var 6) (.int 4)) (.one 6) (.seq (.call e_law_digits (.cons (.var 4) (.cons (.int 9) (.cons (.var 0) .nil))) .nil)) (.bl true) true)) t_law_kind_12
def t_law_kind_14 : Ss := .cons (.iff (.cmp .eq (.var 3) (.str "side")) t_law_kind_13 .nil) t_law_kind_9
def t_law_kind_15 : Ss := .cons (.asg 4 (.op .fdiv (.var 1) (.int 6))) t_law_kind_14
def t_law_kind_16 : Ss := .cons (.asg 3 (.idx (.var 2) (.op .mod (.bi .int (.cons (.var 1) .nil)) (.int 6)))) t_law_kind_15
def t_law_kind_17 : Ss := .cons (.asg 2 (.lst (.cons (.str "range") (.cons (.str "clocked") (.cons (.str "differ") (.cons (.str "side") (.cons (.str "piece") (.cons (.str "boxes") .nil)))))))) t_law_kind_16
def n_law_kind : List Str := ["_law_dims", "_law_row", "_law_names", "_law_name", "_law_rest", "_law_direction", "_law_digit", "_law_number", "_law_boxes_here", "_law_j", "_law_corner"]
def b_law_kind : Ss :=
  t_law_kind_17
def t_law_moved_1 : Ss := .cons (.ret (.bi .tuple (.cons (.op .add (.lst (.cons (.idx (.var 0) (.int 0)) .nil)) (.var 5)) .nil))) .nil
def t_law_moved_2 : Ss := .cons (.asg 5 (.lc (.bi .tuple (.cons (.lc (.op .add (.idx (.var 6) (.var 4)) (.idx (.var 1) (.var 4))) (.one 4) (.rng1 (.bi .len (.cons (.var 6) .nil))) (.bl true) false) .nil)) (.one 6) (.seq (.slLo (.var 0) (.int 1))) (.bl true) false)) t_law_moved_1
def t_law_moved_3 : Ss := .cons (.ret (.tup (.cons (.idx (.var 0) (.int 0)) (.cons (.bi .tuple (.cons (.var 2) .nil)) .nil)))) .nil
def t_law_moved_4 : Ss := .cons (.app (.var 2) (.bi .tuple (.cons (.lc (.tup (.cons (.op .add (.idx (.idx (.var 3) (.var 4)) (.int 0)) (.idx (.var 1) (.var 4))) (.cons (.op .add (.idx (.idx (.var 3) (.var 4)) (.int 1)) (.idx (.var 1) (.var 4))) .nil))) (.one 4) (.rng1 (.bi .len (.cons (.var 3) .nil))) (.bl true) false) .nil))) .nil
def t_law_moved_5 : Ss := .cons (.forr (.one 3) (.seq (.idx (.var 0) (.int 1))) t_law_moved_4) t_law_moved_3
def t_law_moved_6 : Ss := .cons (.asg 2 (.lstM .nil)) t_law_moved_5
def t_law_moved_7 : Ss := .cons (.iff (.cmp .eq (.idx (.var 0) (.int 0)) (.str "boxes")) t_law_moved_6 .nil) t_law_moved_2
def t_law_moved_8 : Ss := .cons (.ret (.var 0)) .nil
def t_law_moved_9 : Ss := .cons (.iff (.cmp .eq (.idx (.var 0) (.int 0)) (.str "side")) t_law_moved_8 .nil) t_law_moved_7
def n_law_moved : List Str := ["_law_kind_here", "_law_shift", "_law_boxes_here", "_law_box", "_law_k", "_law_points", "_law_point_here"]
def b_law_moved : Ss :=
  t_law_moved_9
def t_law_reading_1 : Ss := .cons (.ret (.call e_Reading (.cons (.var 2) (.cons (.var 6) (.cons (.var 5) .nil))) (.cons (.var 12) (.cons (.var 13) (.cons (.var 7) (.cons (.var 9) .nil)))))) .nil
def t_law_reading_2 : Ss := .cons (.asg 13 (.op .add (.var 13) (.op .mod (.bi .int (.cons (.op .fdiv (.var 3) (.int 9)) .nil)) (.int 4)))) t_law_reading_1
def t_law_reading_3 : Ss := .cons (.asg 12 (.op .sub (.var 12) (.op .mod (.bi .int (.cons (.op .fdiv (.var 3) (.int 5)) .nil)) (.int 4)))) t_law_reading_2
def t_law_reading_4 : Ss := .cons (.asg 13 (.op .add (.var 12) (.op .mod (.bi .int (.cons (.op .fdiv (.var 3) (.int 11)) .nil)) (.int 5)))) .nil
def t_law_reading_5 : Ss := .cons (.asg 12 (.op .sub (.op .add (.var 12) (.op .mod (.bi .int (.cons (.op .fdiv (.var 3) (.int 7)) .nil)) (.int 61))) (.int 30))) t_law_reading_4
def t_law_reading_6 : Ss := .cons (.iff (.var 4) t_law_reading_5 .nil) t_law_reading_3
def t_law_reading_7 : Ss := .cons (.asgT [12, 13] (.call e_law_value (.cons (.call e_law_moved (.cons (.var 5) (.cons (.frz (.var 10)) .nil)) .nil) (.cons (.slHi (.var 11) (.var 1)) (.cons (.idx (.var 11) (.var 1)) .nil))) .nil)) t_law_reading_6
def t_law_reading_8 : Ss := .cons (.asg 11 (.call e_law_at (.cons (.var 0) (.cons (.var 8) .nil)) .nil)) t_law_reading_7
def t_law_reading_9 : Ss := .cons (.asgX (.var 10) (.op .mod (.bi .int (.cons (.op .fdiv (.var 3) (.int 1500)) .nil)) (.var 1)) (.op .mul (.var 9) (.op .sub (.op .mod (.bi .int (.cons (.op .fdiv (.var 3) (.int 625)) .nil)) (.int 3)) (.int 1)))) t_law_reading_8
def t_law_reading_10 : Ss := .cons (.asg 10 (.repM (.int 0) (.var 1))) t_law_reading_9
def t_law_reading_11 : Ss := .cons (.asg 9 (.op .fdiv (.op .mod (.bi .int (.cons (.op .fdiv (.var 3) (.int 375)) .nil)) (.int 4)) (.int 2))) t_law_reading_10
def t_law_reading_12 : Ss := .cons (.asg 8 (.op .add (.var 6) (.op .mul (.var 7) (.op .sub (.op .mod (.bi .int (.cons (.op .fdiv (.var 3) (.int 125)) .nil)) (.int 3)) (.int 1))))) t_law_reading_11
def t_law_reading_13 : Ss := .cons (.asg 7 (.op .fdiv (.op .mod (.bi .int (.cons (.op .fdiv (.var 3) (.int 25)) .nil)) (.int 5)) (.int 2))) t_law_reading_12
def t_law_reading_14 : Ss := .cons (.asg 6 (.op .sub (.op .mod (.bi .int (.cons (.var 3) .nil)) (.int 25)) (.int 12))) t_law_reading_13
def t_law_reading_15 : Ss := .cons (.asg 5 (.call e_law_kind (.cons (.var 1) (.cons (.op .fdiv (.var 3) (.int 3125)) .nil)) .nil)) t_law_reading_14
def n_law_reading : List Str := ["_law_way_here", "_law_dims", "_law_name", "_law_row", "_law_lies", "_law_kind_here", "_law_moment", "_law_late", "_law_taken", "_law_near", "_law_shift", "_law_there", "_law_low", "_law_high"]
def b_law_reading : Ss :=
  t_law_reading_15
def t_law_readings_1 : Ss := .cons (.ret (.frz (.var 6))) .nil
def t_law_readings_2 : Ss := .cons (.app (.var 6) (.tup (.cons (.op .add (.op .mul (.var 7) (.int 3)) (.int 2)) (.cons (.call e_law_reading (.cons (.var 0) (.cons (.var 1) (.cons (.var 8) (.cons (.idx (.var 2) (.var 7)) (.cons (.cmp .isin (.var 8) (.var 5)) .nil))))) .nil) .nil)))) .nil
def t_law_readings_3 : Ss := .cons (.asg 8 (.idx (.var 4) (.op .mod (.bi .int (.cons (.op .fdiv (.idx (.var 2) (.var 7)) (.int 13)) .nil)) (.bi .len (.cons (.var 4) .nil))))) t_law_readings_2
def t_law_readings_4 : Ss := .cons (.forr (.one 7) (.rng1 (.var 3)) t_law_readings_3) t_law_readings_1
def t_law_readings_5 : Ss := .cons (.asg 6 (.lstM .nil)) t_law_readings_4
def n_law_readings : List Str := ["_law_way_here", "_law_dims", "_law_rows_here", "_law_many", "_law_names", "_law_liars", "_law_found", "_law_k", "_law_name"]
def b_law_readings : Ss :=
  t_law_readings_5
def t_law_question_1 : Ss := .cons (.ret (.call e_Question (.cons (.var 4) (.cons (.bi .tuple (.cons (.var 8) .nil)) .nil)) (.cons (.var 3) (.cons (.var 10) (.cons (.var 11) (.cons (.var 12) .nil)))))) .nil
def t_law_question_2 : Ss := .cons (.asg 12 (.op .add (.var 11) (.op .mod (.bi .int (.cons (.op .fdiv (.var 2) (.int 5)) .nil)) (.int 28)))) t_law_question_1
def t_law_question_3 : Ss := .cons (.asg 11 (.op .sub (.int 0) (.op .mod (.bi .int (.cons (.op .fdiv (.var 2) (.int 3)) .nil)) (.int 16)))) t_law_question_2
def t_law_question_4 : Ss := .cons (.asg 10 (.op .add (.int 1) (.op .mod (.bi .int (.cons (.op .fdiv (.var 2) (.int 7)) .nil)) (.int 6)))) t_law_question_3
def t_law_question_5 : Ss := .cons (.asg 8 (.lc (.tup (.cons (.op .sub (.idx (.var 5) (.var 9)) (.idx (.var 6) (.var 9))) (.cons (.op .add (.idx (.var 5) (.var 9)) (.idx (.var 7) (.var 9))) .nil))) (.one 9) (.rng1 (.op .add (.var 1) (.int 1))) (.bl true) false)) t_law_question_4
def t_law_question_6 : Ss := .cons (.asg 7 (.call e_law_digits (.cons (.op .fdiv (.var 2) (.int 33)) (.cons (.int 11) (.cons (.op .add (.var 1) (.int 1)) .nil))) .nil)) t_law_question_5
def t_law_question_7 : Ss := .cons (.asg 6 (.call e_law_digits (.cons (.op .fdiv (.var 2) (.int 21)) (.cons (.int 13) (.cons (.op .add (.var 1) (.int 1)) .nil))) .nil)) t_law_question_6
def t_law_question_8 : Ss := .cons (.asg 5 (.call e_law_at (.cons (.var 0) (.cons (.var 4) .nil)) .nil)) t_law_question_7
def t_law_question_9 : Ss := .cons (.asg 4 (.op .sub (.op .mod (.bi .int (.cons (.var 2) .nil)) (.int 21)) (.int 10))) t_law_question_8
def n_law_question : List Str := ["_law_way_here", "_law_dims", "_law_row", "_law_liars", "_law_moment", "_law_there", "_law_below", "_law_above", "_law_root_here", "_law_k", "_law_share", "_law_earliest", "_law_latest"]
def b_law_question : Ss :=
  t_law_question_9
def t_law_plan_1 : Ss := .cons (.ret (.call e_Plan (.cons (.bi .tuple (.cons (.var 4) .nil)) .nil) (.cons (.var 15) (.cons (.var 16) (.cons (.bi .tuple (.cons (.var 10) .nil)) .nil))))) .nil
def t_law_plan_2 : Ss := .cons (.asg 16 (.op .add (.int 1) (.op .mod (.bi .int (.cons (.op .fdiv (.idx (.var 2) (.int 0)) (.int 3000)) .nil)) (.int 8)))) t_law_plan_1
def t_law_plan_3 : Ss := .cons (.asg 15 (.op .add (.int 1) (.op .mod (.bi .int (.cons (.op .fdiv (.idx (.var 2) (.int 0)) (.int 500)) .nil)) (.int 6)))) t_law_plan_2
def t_law_plan_4 : Ss := .cons (.app (.var 10) (.var 14)) .nil
def t_law_plan_5 : Ss := .cons (.asg 14 (.idx (.var 13) (.op .mod (.bi .int (.cons (.op .fdiv (.idx (.var 2) (.int 1)) (.op .add (.int 100) (.op .mul (.int 7) (.var 8)))) .nil)) (.int 4)))) t_law_plan_4
def t_law_plan_6 : Ss := .cons (.asg 13 (.lst (.cons (.tup .nil) (.cons (.tup (.cons (.var 11) .nil)) (.cons (.tup (.cons (.var 11) (.cons (.var 12) .nil))) (.cons (.tup (.cons (.var 12) (.cons (.str "zz") .nil))) .nil)))))) t_law_plan_5
def t_law_plan_7 : Ss := .cons (.asg 12 (.idx (.var 3) (.op .mod (.bi .int (.cons (.op .fdiv (.idx (.var 2) (.int 1)) (.op .add (.int 29) (.op .mul (.int 3) (.var 8)))) .nil)) (.bi .len (.cons (.var 3) .nil))))) t_law_plan_6
def t_law_plan_8 : Ss := .cons (.asg 11 (.idx (.var 3) (.op .mod (.bi .int (.cons (.op .fdiv (.idx (.var 2) (.int 1)) (.op .add (.int 4) (.var 8))) .nil)) (.bi .len (.cons (.var 3) .nil))))) t_law_plan_7
def t_law_plan_9 : Ss := .cons (.forr (.one 8) (.rng1 (.op .mod (.bi .int (.cons (.idx (.var 2) (.int 1)) .nil)) (.int 4))) t_law_plan_8) t_law_plan_3
def t_law_plan_10 : Ss := .cons (.asg 10 (.lstM .nil)) t_law_plan_9
def t_law_plan_11 : Ss := .cons (.asg 4 (.slB (.var 4) (.var 9) (.op .add (.op .add (.var 9) (.int 1)) (.op .mod (.bi .int (.cons (.op .fdiv (.idx (.var 2) (.int 0)) (.int 189)) .nil)) (.int 3))))) t_law_plan_10
def t_law_plan_12 : Ss := .cons (.asg 9 (.op .mod (.bi .int (.cons (.op .fdiv (.idx (.var 2) (.int 0)) (.int 63)) .nil)) (.int 3))) t_law_plan_11
def t_law_plan_13 : Ss := .cons (.asg 4 (.lc (.idx (.var 4) (.var 8)) (.one 8) (.rng1 (.bi .len (.cons (.var 4) .nil))) (.or (.cmp .eq (.var 8) (.int 0)) (.cmp .ne (.idx (.var 4) (.var 8)) (.idx (.var 4) (.op .sub (.var 8) (.int 1))))) false)) t_law_plan_12
def t_law_plan_14 : Ss := .cons (.asg 4 (.bi .sorted (.cons (.lc (.var 7) (.one 7) (.seq (.var 4)) (.ch2 .le .le (.attr (.var 0) 14) (.var 7) (.attr (.var 0) 15)) false) .nil))) t_law_plan_13
def t_law_plan_15 : Ss := .cons (.asg 4 (.op .add (.var 4) (.lst (.cons (.attr (.var 0) 5) (.cons (.op .add (.attr (.var 0) 14) (.op .mod (.bi .int (.cons (.op .fdiv (.idx (.var 2) (.int 0)) (.int 7)) .nil)) (.int 9))) .nil))))) t_law_plan_14
def t_law_plan_16 : Ss := .cons (.asg 4 (.lc (.attr (.var 6) 5) (.tup [5, 6]) (.seq (.var 1)) (.bl true) false)) t_law_plan_15
def n_law_plan : List Str := ["_law_question_here", "_law_readings_here", "_law_rows_here", "_law_names", "_law_moments", "_law_number", "_law_reading_here", "_law_moment", "_law_k", "_law_first", "_law_without", "_law_name", "_law_other", "_law_lists", "_law_row", "_law_grain", "_law_most"]
def b_law_plan : Ss :=
  t_law_plan_16
def t_law_case_1 : Ss := .cons (.ret (.tup (.cons (.var 2) (.cons (.var 8) (.cons (.var 9) (.cons (.var 10) (.cons (.var 11) (.cons (.call e_law_at (.cons (.var 3) (.cons (.attr (.var 8) 5) .nil)) .nil) .nil)))))))) .nil
def t_law_case_2 : Ss := .cons (.asg 11 (.op .mod (.bi .int (.cons (.op .fdiv (.idx (.var 1) (.int 12)) (.int 24)) .nil)) (.int 40))) t_law_case_1
def t_law_case_3 : Ss := .cons (.asg 10 (.call e_law_plan (.cons (.var 8) (.cons (.var 9) (.cons (.slB (.var 1) (.int 13) (.int 15)) (.cons (.var 5) .nil)))) .nil)) t_law_case_2
def t_law_case_4 : Ss := .cons (.asg 9 (.call e_law_readings (.cons (.var 3) (.cons (.var 4) (.cons (.slB (.var 1) (.int 5) (.int 12)) (.cons (.op .mod (.bi .int (.cons (.op .fdiv (.idx (.var 1) (.int 12)) (.int 3)) .nil)) (.int 8)) (.cons (.var 5) (.cons (.var 7) .nil)))))) .nil)) t_law_case_3
def t_law_case_5 : Ss := .cons (.asg 8 (.call e_law_question (.cons (.var 3) (.cons (.var 4) (.cons (.idx (.var 1) (.int 4)) (.cons (.var 6) .nil)))) .nil)) t_law_case_4
def t_law_case_6 : Ss := .cons (.asg 7 (.slLo (.var 5) (.op .sub (.int 4) (.var 6)))) .nil
def t_law_case_7 : Ss := .cons (.iff (.cmp .eq (.op .mod (.op .fdiv (.idx (.var 1) (.int 0)) (.int 7)) (.int 2)) (.int 1)) t_law_case_6 .nil) t_law_case_5
def t_law_case_8 : Ss := .cons (.asg 7 (.slHi (.var 5) (.var 6))) t_law_case_7
def t_law_case_9 : Ss := .cons (.asg 6 (.op .mod (.bi .int (.cons (.op .fdiv (.idx (.var 1) (.int 0)) (.int 300)) .nil)) (.int 3))) t_law_case_8
def t_law_case_10 : Ss := .cons (.asg 5 (.lst (.cons (.str "a") (.cons (.str "b") (.cons (.str "c-1") (.cons (.str "d_") .nil)))))) t_law_case_9
def t_law_case_11 : Ss := .cons (.asg 4 (.attr (.var 2) 0)) t_law_case_10
def t_law_case_12 : Ss := .cons (.asg 3 (.call e_law_way (.cons (.var 2) (.cons (.slB (.var 1) (.int 1) (.int 4)) .nil)) .nil)) t_law_case_11
def t_law_case_13 : Ss := .cons (.asg 2 (.call e_law_setting (.cons (.idx (.var 1) (.int 0)) .nil) .nil)) t_law_case_12
def t_law_case_14 : Ss := .cons (.asg 1 (.call e_law_rows (.cons (.var 0) (.cons (.int 15) .nil)) .nil)) t_law_case_13
def n_law_case : List Str := ["_law_script", "_law_rows_here", "_law_setting_here", "_law_way_here", "_law_dims", "_law_names", "_law_many", "_law_liars", "_law_question_here", "_law_readings_here", "_law_plan_here", "_law_steps"]
def b_law_case : Ss :=
  t_law_case_14
def t_law_made_1 : Ss := .cons (.ret .non) .nil
def t_law_made_2 : Ss := .cons (.ret (.var 9)) .nil
def t_law_made_3 : Ss := .cons (.iff (.isP (.var 9)) t_law_made_2 .nil) t_law_made_1
def t_law_made_4 : Ss := .cons (.asg 9 (.call e_make_paper (.cons (.var 0) (.cons (.var 1) (.cons (.var 2) (.cons (.var 5) (.cons (.var 6) (.cons (.attr (.var 1) 11) .nil)))))) (.cons (.var 4) .nil))) t_law_made_3
def t_law_made_5 : Ss := .cons (.asg 6 (.op .add (.lc (.tup (.cons (.tup (.cons (.str "reading") (.cons (.idx (.var 7) (.int 0)) .nil))) .nil)) (.one 7) (.seq (.var 2)) (.bl true) false) (.lc (.tup (.cons (.tup (.cons (.str "known") (.cons (.var 8) .nil))) .nil)) (.one 8) (.rng1 (.bi .len (.cons (.var 5) .nil))) (.bl true) false))) t_law_made_4
def t_law_made_6 : Ss := .cons (.asg 5 (.frz (.idx (.call e_know (.cons (.var 0) (.cons (.var 1) (.cons (.var 2) (.cons (.var 3) .nil)))) .nil) (.int 0)))) t_law_made_5
def n_law_made : List Str := ["_law_setting_here", "_law_question_here", "_law_readings_here", "_law_plan_here", "_law_honest", "_law_known", "_law_trees", "_law_pair", "_law_k", "_law_made_here"]
def b_law_made : Ss :=
  t_law_made_6
def t_law_1 : Ss := .cons (.ret (.bl true)) .nil
def t_law_2 : Ss := .cons (.ret (.bl false)) .nil
def t_law_3 : Ss := .cons (.iff (.or (.cmp .ne (.attr (.var 16) 24) (.notN (.var 13))) (.cmp .ne (.attr (.var 16) 25) (.notN (.var 15)))) t_law_2 .nil) .nil
def t_law_4 : Ss := .cons (.ret (.bl false)) .nil
def t_law_5 : Ss := .cons (.iff (.or (.and (.attr (.var 16) 24) (.cmp .notin (.var 12) (.var 10))) (.or (.and (.attr (.var 16) 25) (.cmp .isin (.var 12) (.var 10))) (.and (.attr (.var 16) 24) (.attr (.var 16) 25)))) t_law_4 .nil) t_law_3
def t_law_6 : Ss := .cons (.asg 16 (.call e_standing (.cons (.var 1) (.cons (.var 2) (.cons (.var 3) (.cons (.var 12) .nil)))) (.cons (.var 13) (.cons (.var 15) .nil)))) t_law_5
def t_law_7 : Ss := .cons (.asg 15 (.call e_law_made (.cons (.var 1) (.cons (.var 11) (.cons (.var 14) (.cons (.var 4) (.cons (.tup .nil) .nil))))) .nil)) .nil
def t_law_8 : Ss := .cons (.iff (.cmp .gt (.var 9) (.int 0)) t_law_7 .nil) t_law_6
def t_law_9 : Ss := .cons (.asg 15 .non) t_law_8
def t_law_10 : Ss := .cons (.asg 14 (.lc (.var 17) (.one 17) (.seq (.var 3)) (.cmp .ne (.attr (.idx (.var 17) (.int 1)) 4) (.var 12)) false)) t_law_9
def t_law_11 : Ss := .cons (.asg 13 (.call e_law_made (.cons (.var 1) (.cons (.var 2) (.cons (.var 3) (.cons (.var 4) (.cons (.tup (.cons (.var 12) .nil)) .nil))))) .nil)) t_law_10
def t_law_12 : Ss := .cons (.forr (.one 12) (.seq (.var 8)) t_law_11) t_law_1
def t_law_13 : Ss := .cons (.asg 11 (.call e_Question (.cons (.attr (.var 2) 5) (.cons (.attr (.var 2) 11) .nil)) (.cons (.op .sub (.var 9) (.int 1)) (.cons (.attr (.var 2) 13) (.cons (.attr (.var 2) 14) (.cons (.attr (.var 2) 15) .nil)))))) .nil
def t_law_14 : Ss := .cons (.iff (.cmp .gt (.var 9) (.int 0)) t_law_13 .nil) t_law_12
def t_law_15 : Ss := .cons (.asg 11 (.var 2)) t_law_14
def t_law_16 : Ss := .cons (.asg 10 (.slLo (.var 8) (.op .sub (.int 4) (.var 9)))) .nil
def t_law_17 : Ss := .cons (.iff (.cmp .eq (.op .mod (.op .fdiv (.idx (.var 7) (.int 0)) (.int 7)) (.int 2)) (.int 1)) t_law_16 .nil) t_law_15
def t_law_18 : Ss := .cons (.asg 10 (.slHi (.var 8) (.var 9))) t_law_17
def t_law_19 : Ss := .cons (.asg 9 (.op .mod (.bi .int (.cons (.op .fdiv (.idx (.var 7) (.int 0)) (.int 300)) .nil)) (.int 3))) t_law_18
def t_law_20 : Ss := .cons (.asg 8 (.lst (.cons (.str "a") (.cons (.str "b") (.cons (.str "c-1") (.cons (.str "d_") .nil)))))) t_law_19
def t_law_21 : Ss := .cons (.asg 7 (.call e_law_rows (.cons (.var 0) (.cons (.int 15) .nil)) .nil)) t_law_20
def t_law_22 : Ss := .cons (.asgT [1, 2, 3, 4, 5, 6] (.call e_law_case (.cons (.var 0) .nil) .nil)) t_law_21
def n_law : List Str := ["_law_script", "_law_setting_here", "_law_question_here", "_law_readings_here", "_law_plan_here", "_law_steps", "_law_there", "_law_rows_here", "_law_names", "_law_many", "_law_liars", "_law_less", "_law_source", "_law_must", "_law_others", "_law_cannot", "_law_told", "_law_pair"]
def b_law : Ss :=
  t_law_22
end Sp
end
section
set_option Elab.async false
set_option linter.all false
set_option maxRecDepth 100000
/-! Each def's scope, and that our syntax matches its text (printed by gen_scopes.py). -/
namespace Sp
open PySem L2
def ps_is_name : List Str := ["text"]
theorem sc_is_name : FnScope n_is_name ps_is_name (defScope SpH.s_is_name) := ⟨rfl, rfl, rfl, by decide +kernel, rfl, by decide +kernel, by decide +kernel⟩
theorem ck_is_name : chkSs ⟨n_is_name, defScope SpH.s_is_name, fun _ => true⟩ b_is_name (defBody SpH.s_is_name) = true := by decide +kernel
def ps_Setting_init : List Str := ["self", "dims", "speed", "drift", "per"]
theorem sc_Setting_init : FnScope n_Setting_init ps_Setting_init (defScope SpH.s_Setting_init) := ⟨rfl, rfl, rfl, by decide +kernel, rfl, by decide +kernel, by decide +kernel⟩
theorem ck_Setting_init : chkSs ⟨n_Setting_init, defScope SpH.s_Setting_init, fun _ => true⟩ b_Setting_init (defBody SpH.s_Setting_init) = true := by decide +kernel
def ps_in_room : List Str := ["numbers"]
theorem sc_in_room : FnScope n_in_room ps_in_room (defScope SpH.s_in_room) := ⟨rfl, rfl, rfl, by decide +kernel, rfl, by decide +kernel, by decide +kernel⟩
theorem ck_in_room : chkSs ⟨n_in_room, defScope SpH.s_in_room, fun _ => true⟩ b_in_room (defBody SpH.s_in_room) = true := by decide +kernel
def ps_box_in_room : List Str := ["box"]
theorem sc_box_in_room : FnScope n_box_in_room ps_box_in_room (defScope SpH.s_box_in_room) := ⟨rfl, rfl, rfl, by decide +kernel, rfl, by decide +kernel, by decide +kernel⟩
theorem ck_box_in_room : chkSs ⟨n_box_in_room, defScope SpH.s_box_in_room, fun _ => true⟩ b_box_in_room (defBody SpH.s_box_in_room) = true := by decide +kernel
def ps_kind_in_bounds : List Str := ["kind"]
theorem sc_kind_in_bounds : FnScope n_kind_in_bounds ps_kind_in_bounds (defScope SpH.s_kind_in_bounds) := ⟨rfl, rfl, rfl, by decide +kernel, rfl, by decide +kernel, by decide +kernel⟩
theorem ck_kind_in_bounds : chkSs ⟨n_kind_in_bounds, defScope SpH.s_kind_in_bounds, fun _ => true⟩ b_kind_in_bounds (defBody SpH.s_kind_in_bounds) = true := by decide +kernel
def ps_Reading_init : List Str := ["self", "source", "moment", "kind", "low", "high", "late", "near"]
theorem sc_Reading_init : FnScope n_Reading_init ps_Reading_init (defScope SpH.s_Reading_init) := ⟨rfl, rfl, rfl, by decide +kernel, rfl, by decide +kernel, by decide +kernel⟩
theorem ck_Reading_init : chkSs ⟨n_Reading_init, defScope SpH.s_Reading_init, fun _ => true⟩ b_Reading_init (defBody SpH.s_Reading_init) = true := by decide +kernel
def ps_Question_init : List Str := ["self", "moment", "root", "liars", "share", "earliest", "latest"]
theorem sc_Question_init : FnScope n_Question_init ps_Question_init (defScope SpH.s_Question_init) := ⟨rfl, rfl, rfl, by decide +kernel, rfl, by decide +kernel, by decide +kernel⟩
theorem ck_Question_init : chkSs ⟨n_Question_init, defScope SpH.s_Question_init, fun _ => true⟩ b_Question_init (defBody SpH.s_Question_init) = true := by decide +kernel
def ps_asked : List Str := ["question", "readings"]
theorem sc_asked : FnScope n_asked ps_asked (defScope SpH.s_asked) := ⟨rfl, rfl, rfl, by decide +kernel, rfl, by decide +kernel, by decide +kernel⟩
theorem ck_asked : chkSs ⟨n_asked, defScope SpH.s_asked, fun _ => true⟩ b_asked (defBody SpH.s_asked) = true := by decide +kernel
def ps_Marks_init : List Str := ["self", "left", "barred"]
theorem sc_Marks_init : FnScope n_Marks_init ps_Marks_init (defScope SpH.s_Marks_init) := ⟨rfl, rfl, rfl, by decide +kernel, rfl, by decide +kernel, by decide +kernel⟩
theorem ck_Marks_init : chkSs ⟨n_Marks_init, defScope SpH.s_Marks_init, fun _ => true⟩ b_Marks_init (defBody SpH.s_Marks_init) = true := by decide +kernel
def ps_joined : List Str := ["marks", "left", "barred"]
theorem sc_joined : FnScope n_joined ps_joined (defScope SpH.s_joined) := ⟨rfl, rfl, rfl, by decide +kernel, rfl, by decide +kernel, by decide +kernel⟩
theorem ck_joined : chkSs ⟨n_joined, defScope SpH.s_joined, fun _ => true⟩ b_joined (defBody SpH.s_joined) = true := by decide +kernel
def ps_step_right : List Str := ["used", "step", "marks", "honest", "at", "many"]
theorem sc_step_right : FnScope n_step_right ps_step_right (defScope SpH.s_step_right) := ⟨rfl, rfl, rfl, by decide +kernel, rfl, by decide +kernel, by decide +kernel⟩
theorem ck_step_right : chkSs ⟨n_step_right, defScope SpH.s_step_right, fun _ => true⟩ b_step_right (defBody SpH.s_step_right) = true := by decide +kernel
def ps_blames_right : List Str := ["used", "steps", "honest", "liars"]
theorem sc_blames_right : FnScope n_blames_right ps_blames_right (defScope SpH.s_blames_right) := ⟨rfl, rfl, rfl, by decide +kernel, rfl, by decide +kernel, by decide +kernel⟩
theorem ck_blames_right : chkSs ⟨n_blames_right, defScope SpH.s_blames_right, fun _ => true⟩ b_blames_right (defBody SpH.s_blames_right) = true := by decide +kernel
def ps_root_down : List Str := ["number"]
theorem sc_root_down : FnScope n_root_down ps_root_down (defScope SpH.s_root_down) := ⟨rfl, rfl, rfl, by decide +kernel, rfl, by decide +kernel, by decide +kernel⟩
theorem ck_root_down : chkSs ⟨n_root_down, defScope SpH.s_root_down, fun _ => true⟩ b_root_down (defBody SpH.s_root_down) = true := by decide +kernel
def ps_root_up : List Str := ["number"]
theorem sc_root_up : FnScope n_root_up ps_root_up (defScope SpH.s_root_up) := ⟨rfl, rfl, rfl, by decide +kernel, rfl, by decide +kernel, by decide +kernel⟩
theorem ck_root_up : chkSs ⟨n_root_up, defScope SpH.s_root_up, fun _ => true⟩ b_root_up (defBody SpH.s_root_up) = true := by decide +kernel
def ps_middle : List Str := ["box"]
theorem sc_middle : FnScope n_middle ps_middle (defScope SpH.s_middle) := ⟨rfl, rfl, rfl, by decide +kernel, rfl, by decide +kernel, by decide +kernel⟩
theorem ck_middle : chkSs ⟨n_middle, defScope SpH.s_middle, fun _ => true⟩ b_middle (defBody SpH.s_middle) = true := by decide +kernel
def ps_half_side : List Str := ["side"]
theorem sc_half_side : FnScope n_half_side ps_half_side (defScope SpH.s_half_side) := ⟨rfl, rfl, rfl, by decide +kernel, rfl, by decide +kernel, by decide +kernel⟩
theorem ck_half_side : chkSs ⟨n_half_side, defScope SpH.s_half_side, fun _ => true⟩ b_half_side (defBody SpH.s_half_side) = true := by decide +kernel
def ps_radius : List Str := ["box"]
theorem sc_radius : FnScope n_radius ps_radius (defScope SpH.s_radius) := ⟨rfl, rfl, rfl, by decide +kernel, rfl, by decide +kernel, by decide +kernel⟩
theorem ck_radius : chkSs ⟨n_radius, defScope SpH.s_radius, fun _ => true⟩ b_radius (defBody SpH.s_radius) = true := by decide +kernel
def ps_inside : List Str := ["box", "other"]
theorem sc_inside : FnScope n_inside ps_inside (defScope SpH.s_inside) := ⟨rfl, rfl, rfl, by decide +kernel, rfl, by decide +kernel, by decide +kernel⟩
theorem ck_inside : chkSs ⟨n_inside, defScope SpH.s_inside, fun _ => true⟩ b_inside (defBody SpH.s_inside) = true := by decide +kernel
def ps_is_small : List Str := ["box", "share"]
theorem sc_is_small : FnScope n_is_small ps_is_small (defScope SpH.s_is_small) := ⟨rfl, rfl, rfl, by decide +kernel, rfl, by decide +kernel, by decide +kernel⟩
theorem ck_is_small : chkSs ⟨n_is_small, defScope SpH.s_is_small, fun _ => true⟩ b_is_small (defBody SpH.s_is_small) = true := by decide +kernel
def ps_widest : List Str := ["box"]
theorem sc_widest : FnScope n_widest ps_widest (defScope SpH.s_widest) := ⟨rfl, rfl, rfl, by decide +kernel, rfl, by decide +kernel, by decide +kernel⟩
theorem ck_widest : chkSs ⟨n_widest, defScope SpH.s_widest, fun _ => true⟩ b_widest (defBody SpH.s_widest) = true := by decide +kernel
def ps_cut : List Str := ["box", "axis", "place"]
theorem sc_cut : FnScope n_cut ps_cut (defScope SpH.s_cut) := ⟨rfl, rfl, rfl, by decide +kernel, rfl, by decide +kernel, by decide +kernel⟩
theorem ck_cut : chkSs ⟨n_cut, defScope SpH.s_cut, fun _ => true⟩ b_cut (defBody SpH.s_cut) = true := by decide +kernel
def ps_halves : List Str := ["box"]
theorem sc_halves : FnScope n_halves ps_halves (defScope SpH.s_halves) := ⟨rfl, rfl, rfl, by decide +kernel, rfl, by decide +kernel, by decide +kernel⟩
theorem ck_halves : chkSs ⟨n_halves, defScope SpH.s_halves, fun _ => true⟩ b_halves (defBody SpH.s_halves) = true := by decide +kernel
def ps_nearest : List Str := ["point", "box"]
theorem sc_nearest : FnScope n_nearest ps_nearest (defScope SpH.s_nearest) := ⟨rfl, rfl, rfl, by decide +kernel, rfl, by decide +kernel, by decide +kernel⟩
theorem ck_nearest : chkSs ⟨n_nearest, defScope SpH.s_nearest, fun _ => true⟩ b_nearest (defBody SpH.s_nearest) = true := by decide +kernel
def ps_farthest : List Str := ["point", "box"]
theorem sc_farthest : FnScope n_farthest ps_farthest (defScope SpH.s_farthest) := ⟨rfl, rfl, rfl, by decide +kernel, rfl, by decide +kernel, by decide +kernel⟩
theorem ck_farthest : chkSs ⟨n_farthest, defScope SpH.s_farthest, fun _ => true⟩ b_farthest (defBody SpH.s_farthest) = true := by decide +kernel
def ps_distances : List Str := ["point", "box"]
theorem sc_distances : FnScope n_distances ps_distances (defScope SpH.s_distances) := ⟨rfl, rfl, rfl, by decide +kernel, rfl, by decide +kernel, by decide +kernel⟩
theorem ck_distances : chkSs ⟨n_distances, defScope SpH.s_distances, fun _ => true⟩ b_distances (defBody SpH.s_distances) = true := by decide +kernel
def ps_dot : List Str := ["one", "two"]
theorem sc_dot : FnScope n_dot ps_dot (defScope SpH.s_dot) := ⟨rfl, rfl, rfl, by decide +kernel, rfl, by decide +kernel, by decide +kernel⟩
theorem ck_dot : chkSs ⟨n_dot, defScope SpH.s_dot, fun _ => true⟩ b_dot (defBody SpH.s_dot) = true := by decide +kernel
def ps_minus : List Str := ["one", "two"]
theorem sc_minus : FnScope n_minus ps_minus (defScope SpH.s_minus) := ⟨rfl, rfl, rfl, by decide +kernel, rfl, by decide +kernel, by decide +kernel⟩
theorem ck_minus : chkSs ⟨n_minus, defScope SpH.s_minus, fun _ => true⟩ b_minus (defBody SpH.s_minus) = true := by decide +kernel
def ps_from_piece : List Str := ["point", "at", "to"]
theorem sc_from_piece : FnScope n_from_piece ps_from_piece (defScope SpH.s_from_piece) := ⟨rfl, rfl, rfl, by decide +kernel, rfl, by decide +kernel, by decide +kernel⟩
theorem ck_from_piece : chkSs ⟨n_from_piece, defScope SpH.s_from_piece, fun _ => true⟩ b_from_piece (defBody SpH.s_from_piece) = true := by decide +kernel
def ps_side_span : List Str := ["direction", "box"]
theorem sc_side_span : FnScope n_side_span ps_side_span (defScope SpH.s_side_span) := ⟨rfl, rfl, rfl, by decide +kernel, rfl, by decide +kernel, by decide +kernel⟩
theorem ck_side_span : chkSs ⟨n_side_span, defScope SpH.s_side_span, fun _ => true⟩ b_side_span (defBody SpH.s_side_span) = true := by decide +kernel
def ps_between : List Str := ["box", "other"]
theorem sc_between : FnScope n_between ps_between (defScope SpH.s_between) := ⟨rfl, rfl, rfl, by decide +kernel, rfl, by decide +kernel, by decide +kernel⟩
theorem ck_between : chkSs ⟨n_between, defScope SpH.s_between, fun _ => true⟩ b_between (defBody SpH.s_between) = true := by decide +kernel
def ps_greatest_from : List Str := ["box", "other"]
theorem sc_greatest_from : FnScope n_greatest_from ps_greatest_from (defScope SpH.s_greatest_from) := ⟨rfl, rfl, rfl, by decide +kernel, rfl, by decide +kernel, by decide +kernel⟩
theorem ck_greatest_from : chkSs ⟨n_greatest_from, defScope SpH.s_greatest_from, fun _ => true⟩ b_greatest_from (defBody SpH.s_greatest_from) = true := by decide +kernel
def ps_span : List Str := ["kind", "box"]
theorem sc_span : FnScope n_span ps_span (defScope SpH.s_span) := ⟨rfl, rfl, rfl, by decide +kernel, rfl, by decide +kernel, by decide +kernel⟩
theorem ck_span : chkSs ⟨n_span, defScope SpH.s_span, fun _ => true⟩ b_span (defBody SpH.s_span) = true := by decide +kernel
def ps_reach : List Str := ["setting", "ticks"]
theorem sc_reach : FnScope n_reach ps_reach (defScope SpH.s_reach) := ⟨rfl, rfl, rfl, by decide +kernel, rfl, by decide +kernel, by decide +kernel⟩
theorem ck_reach : chkSs ⟨n_reach, defScope SpH.s_reach, fun _ => true⟩ b_reach (defBody SpH.s_reach) = true := by decide +kernel
def ps_slip : List Str := ["setting", "ticks"]
theorem sc_slip : FnScope n_slip ps_slip (defScope SpH.s_slip) := ⟨rfl, rfl, rfl, by decide +kernel, rfl, by decide +kernel, by decide +kernel⟩
theorem ck_slip : chkSs ⟨n_slip, defScope SpH.s_slip, fun _ => true⟩ b_slip (defBody SpH.s_slip) = true := by decide +kernel
def ps_farther : List Str := ["setting", "ticks", "box", "other"]
theorem sc_farther : FnScope n_farther ps_farther (defScope SpH.s_farther) := ⟨rfl, rfl, rfl, by decide +kernel, rfl, by decide +kernel, by decide +kernel⟩
theorem ck_farther : chkSs ⟨n_farther, defScope SpH.s_farther, fun _ => true⟩ b_farther (defBody SpH.s_farther) = true := by decide +kernel
def ps_widened : List Str := ["setting", "ticks", "box"]
theorem sc_widened : FnScope n_widened ps_widened (defScope SpH.s_widened) := ⟨rfl, rfl, rfl, by decide +kernel, rfl, by decide +kernel, by decide +kernel⟩
theorem ck_widened : chkSs ⟨n_widened, defScope SpH.s_widened, fun _ => true⟩ b_widened (defBody SpH.s_widened) = true := by decide +kernel
def ps_rate : List Str := ["kind"]
theorem sc_rate : FnScope n_rate ps_rate (defScope SpH.s_rate) := ⟨rfl, rfl, rfl, by decide +kernel, rfl, by decide +kernel, by decide +kernel⟩
theorem ck_rate : chkSs ⟨n_rate, defScope SpH.s_rate, fun _ => true⟩ b_rate (defBody SpH.s_rate) = true := by decide +kernel
def ps_clock_rate : List Str := ["kind"]
theorem sc_clock_rate : FnScope n_clock_rate ps_clock_rate (defScope SpH.s_clock_rate) := ⟨rfl, rfl, rfl, by decide +kernel, rfl, by decide +kernel, by decide +kernel⟩
theorem ck_clock_rate : chkSs ⟨n_clock_rate, defScope SpH.s_clock_rate, fun _ => true⟩ b_clock_rate (defBody SpH.s_clock_rate) = true := by decide +kernel
def ps_moved : List Str := ["kind"]
theorem sc_moved : FnScope n_moved ps_moved (defScope SpH.s_moved) := ⟨rfl, rfl, rfl, by decide +kernel, rfl, by decide +kernel, by decide +kernel⟩
theorem ck_moved : chkSs ⟨n_moved, defScope SpH.s_moved, fun _ => true⟩ b_moved (defBody SpH.s_moved) = true := by decide +kernel
def ps_carried : List Str := ["setting", "reading", "moment"]
theorem sc_carried : FnScope n_carried ps_carried (defScope SpH.s_carried) := ⟨rfl, rfl, rfl, by decide +kernel, rfl, by decide +kernel, by decide +kernel⟩
theorem ck_carried : chkSs ⟨n_carried, defScope SpH.s_carried, fun _ => true⟩ b_carried (defBody SpH.s_carried) = true := by decide +kernel
def ps_excludes : List Str := ["setting", "reading", "moment", "box"]
theorem sc_excludes : FnScope n_excludes ps_excludes (defScope SpH.s_excludes) := ⟨rfl, rfl, rfl, by decide +kernel, rfl, by decide +kernel, by decide +kernel⟩
theorem ck_excludes : chkSs ⟨n_excludes, defScope SpH.s_excludes, fun _ => true⟩ b_excludes (defBody SpH.s_excludes) = true := by decide +kernel
def ps_Held_init : List Str := ["self", "moment", "cover", "used"]
theorem sc_Held_init : FnScope n_Held_init ps_Held_init (defScope SpH.s_Held_init) := ⟨rfl, rfl, rfl, by decide +kernel, rfl, by decide +kernel, by decide +kernel⟩
theorem ck_Held_init : chkSs ⟨n_Held_init, defScope SpH.s_Held_init, fun _ => true⟩ b_Held_init (defBody SpH.s_Held_init) = true := by decide +kernel
def ps_by_reading : List Str := ["setting", "readings", "number", "moment", "box"]
theorem sc_by_reading : FnScope n_by_reading ps_by_reading (defScope SpH.s_by_reading) := ⟨rfl, rfl, rfl, by decide +kernel, rfl, by decide +kernel, by decide +kernel⟩
theorem ck_by_reading : chkSs ⟨n_by_reading, defScope SpH.s_by_reading, fun _ => true⟩ b_by_reading (defBody SpH.s_by_reading) = true := by decide +kernel
def ps_by_known : List Str := ["setting", "held", "place", "moment", "box"]
theorem sc_by_known : FnScope n_by_known ps_by_known (defScope SpH.s_by_known) := ⟨rfl, rfl, rfl, by decide +kernel, rfl, by decide +kernel, by decide +kernel⟩
theorem ck_by_known : chkSs ⟨n_by_known, defScope SpH.s_by_known, fun _ => true⟩ b_by_known (defBody SpH.s_by_known) = true := by decide +kernel
def ps_by_kept : List Str := ["keep", "place", "box"]
theorem sc_by_kept : FnScope n_by_kept ps_by_kept (defScope SpH.s_by_kept) := ⟨rfl, rfl, rfl, by decide +kernel, rfl, by decide +kernel, by decide +kernel⟩
theorem ck_by_kept : chkSs ⟨n_by_kept, defScope SpH.s_by_kept, fun _ => true⟩ b_by_kept (defBody SpH.s_by_kept) = true := by decide +kernel
def ps_by_step : List Str := ["setting", "readings", "held", "keep", "moment", "step", "box"]
theorem sc_by_step : FnScope n_by_step ps_by_step (defScope SpH.s_by_step) := ⟨rfl, rfl, rfl, by decide +kernel, rfl, by decide +kernel, by decide +kernel⟩
theorem ck_by_step : chkSs ⟨n_by_step, defScope SpH.s_by_step, fun _ => true⟩ b_by_step (defBody SpH.s_by_step) = true := by decide +kernel
def ps_judge_tree : List Str := ["setting", "readings", "held", "keep", "moment", "tree", "box"]
theorem sc_judge_tree : FnScope n_judge_tree ps_judge_tree (defScope SpH.s_judge_tree) := ⟨rfl, rfl, rfl, by decide +kernel, rfl, by decide +kernel, by decide +kernel⟩
theorem ck_judge_tree : chkSs ⟨n_judge_tree, defScope SpH.s_judge_tree, fun _ => true⟩ b_judge_tree (defBody SpH.s_judge_tree) = true := by decide +kernel
def ps_Known_init : List Str := ["self", "moment", "cover", "tree"]
theorem sc_Known_init : FnScope n_Known_init ps_Known_init (defScope SpH.s_Known_init) := ⟨rfl, rfl, rfl, by decide +kernel, rfl, by decide +kernel, by decide +kernel⟩
theorem ck_Known_init : chkSs ⟨n_Known_init, defScope SpH.s_Known_init, fun _ => true⟩ b_Known_init (defBody SpH.s_Known_init) = true := by decide +kernel
def ps_Paper_init : List Str := ["self", "known", "trees", "steps"]
theorem sc_Paper_init : FnScope n_Paper_init ps_Paper_init (defScope SpH.s_Paper_init) := ⟨rfl, rfl, rfl, by decide +kernel, rfl, by decide +kernel, by decide +kernel⟩
theorem ck_Paper_init : chkSs ⟨n_Paper_init, defScope SpH.s_Paper_init, fun _ => true⟩ b_Paper_init (defBody SpH.s_Paper_init) = true := by decide +kernel
def ps_root_at : List Str := ["setting", "question", "moment"]
theorem sc_root_at : FnScope n_root_at ps_root_at (defScope SpH.s_root_at) := ⟨rfl, rfl, rfl, by decide +kernel, rfl, by decide +kernel, by decide +kernel⟩
theorem ck_root_at : chkSs ⟨n_root_at, defScope SpH.s_root_at, fun _ => true⟩ b_root_at (defBody SpH.s_root_at) = true := by decide +kernel
def ps_judge_next : List Str := ["setting", "question", "rows", "held", "thing"]
theorem sc_judge_next : FnScope n_judge_next ps_judge_next (defScope SpH.s_judge_next) := ⟨rfl, rfl, rfl, by decide +kernel, rfl, by decide +kernel, by decide +kernel⟩
theorem ck_judge_next : chkSs ⟨n_judge_next, defScope SpH.s_judge_next, fun _ => true⟩ b_judge_next (defBody SpH.s_judge_next) = true := by decide +kernel
def ps_judge_known : List Str := ["setting", "question", "readings", "known"]
theorem sc_judge_known : FnScope n_judge_known ps_judge_known (defScope SpH.s_judge_known) := ⟨rfl, rfl, rfl, by decide +kernel, rfl, by decide +kernel, by decide +kernel⟩
theorem ck_judge_known : chkSs ⟨n_judge_known, defScope SpH.s_judge_known, fun _ => true⟩ b_judge_known (defBody SpH.s_judge_known) = true := by decide +kernel
def ps_used_by : List Str := ["setting", "question", "readings", "held", "trees", "box"]
theorem sc_used_by : FnScope n_used_by ps_used_by (defScope SpH.s_used_by) := ⟨rfl, rfl, rfl, by decide +kernel, rfl, by decide +kernel, by decide +kernel⟩
theorem ck_used_by : chkSs ⟨n_used_by, defScope SpH.s_used_by, fun _ => true⟩ b_used_by (defBody SpH.s_used_by) = true := by decide +kernel
def ps_judge_paper : List Str := ["setting", "question", "readings", "paper", "box", "honest"]
theorem sc_judge_paper : FnScope n_judge_paper ps_judge_paper (defScope SpH.s_judge_paper) := ⟨rfl, rfl, rfl, by decide +kernel, rfl, by decide +kernel, by decide +kernel⟩
theorem ck_judge_paper : chkSs ⟨n_judge_paper, defScope SpH.s_judge_paper, fun _ => true⟩ b_judge_paper (defBody SpH.s_judge_paper) = true := by decide +kernel
def ps_Standing_init : List Str := ["self", "must", "cannot", "lies", "tells"]
theorem sc_Standing_init : FnScope n_Standing_init ps_Standing_init (defScope SpH.s_Standing_init) := ⟨rfl, rfl, rfl, by decide +kernel, rfl, by decide +kernel, by decide +kernel⟩
theorem ck_Standing_init : chkSs ⟨n_Standing_init, defScope SpH.s_Standing_init, fun _ => true⟩ b_Standing_init (defBody SpH.s_Standing_init) = true := by decide +kernel
def ps_with_fewer : List Str := ["question"]
theorem sc_with_fewer : FnScope n_with_fewer ps_with_fewer (defScope SpH.s_with_fewer) := ⟨rfl, rfl, rfl, by decide +kernel, rfl, by decide +kernel, by decide +kernel⟩
theorem ck_with_fewer : chkSs ⟨n_with_fewer, defScope SpH.s_with_fewer, fun _ => true⟩ b_with_fewer (defBody SpH.s_with_fewer) = true := by decide +kernel
def ps_cannot_lie : List Str := ["setting", "question", "readings", "source", "paper"]
theorem sc_cannot_lie : FnScope n_cannot_lie ps_cannot_lie (defScope SpH.s_cannot_lie) := ⟨rfl, rfl, rfl, by decide +kernel, rfl, by decide +kernel, by decide +kernel⟩
theorem ck_cannot_lie : chkSs ⟨n_cannot_lie, defScope SpH.s_cannot_lie, fun _ => true⟩ b_cannot_lie (defBody SpH.s_cannot_lie) = true := by decide +kernel
def ps_shown_in : List Str := ["setting", "question", "readings", "witness"]
theorem sc_shown_in : FnScope n_shown_in ps_shown_in (defScope SpH.s_shown_in) := ⟨rfl, rfl, rfl, by decide +kernel, rfl, by decide +kernel, by decide +kernel⟩
theorem ck_shown_in : chkSs ⟨n_shown_in, defScope SpH.s_shown_in, fun _ => true⟩ b_shown_in (defBody SpH.s_shown_in) = true := by decide +kernel
def ps_standing : List Str := ["setting", "question", "readings", "source", "must", "cannot", "lies", "tells"]
theorem sc_standing : FnScope n_standing ps_standing (defScope SpH.s_standing) := ⟨rfl, rfl, rfl, by decide +kernel, rfl, by decide +kernel, by decide +kernel⟩
theorem ck_standing : chkSs ⟨n_standing, defScope SpH.s_standing, fun _ => true⟩ b_standing (defBody SpH.s_standing) = true := by decide +kernel
def ps_suspects : List Str := ["entry", "honest"]
theorem sc_suspects : FnScope n_suspects ps_suspects (defScope SpH.s_suspects) := ⟨rfl, rfl, rfl, by decide +kernel, rfl, by decide +kernel, by decide +kernel⟩
theorem ck_suspects : chkSs ⟨n_suspects, defScope SpH.s_suspects, fun _ => true⟩ b_suspects (defBody SpH.s_suspects) = true := by decide +kernel
def ps_first_unmet : List Str := ["used", "path"]
theorem sc_first_unmet : FnScope n_first_unmet ps_first_unmet (defScope SpH.s_first_unmet) := ⟨rfl, rfl, rfl, by decide +kernel, rfl, by decide +kernel, by decide +kernel⟩
theorem ck_first_unmet : chkSs ⟨n_first_unmet, defScope SpH.s_first_unmet, fun _ => true⟩ b_first_unmet (defBody SpH.s_first_unmet) = true := by decide +kernel
def ps_make_steps : List Str := ["used", "honest", "liars"]
theorem sc_make_steps : FnScope n_make_steps ps_make_steps (defScope SpH.s_make_steps) := ⟨rfl, rfl, rfl, by decide +kernel, rfl, by decide +kernel, by decide +kernel⟩
theorem ck_make_steps : chkSs ⟨n_make_steps, defScope SpH.s_make_steps, fun _ => true⟩ b_make_steps (defBody SpH.s_make_steps) = true := by decide +kernel
def ps_add_steps : List Str := ["steps", "used", "honest", "path", "left"]
theorem sc_add_steps : FnScope n_add_steps ps_add_steps (defScope SpH.s_add_steps) := ⟨rfl, rfl, rfl, by decide +kernel, rfl, by decide +kernel, by decide +kernel⟩
theorem ck_add_steps (self : Ent) (h : self.name = "_add_steps") (hn : self.n = 5) (hk : self.kws = []) : chkSs ⟨n_add_steps, defScope SpH.s_add_steps, fun _ => true⟩ (b_add_steps self) (defBody SpH.s_add_steps) = true := by
  obtain ⟨x, n, k, s⟩ := self
  cases h; cases hn; cases hk
  kernel_rfl
def ps_make_paper : List Str := ["setting", "question", "readings", "known", "trees", "box", "honest"]
theorem sc_make_paper : FnScope n_make_paper ps_make_paper (defScope SpH.s_make_paper) := ⟨rfl, rfl, rfl, by decide +kernel, rfl, by decide +kernel, by decide +kernel⟩
theorem ck_make_paper : chkSs ⟨n_make_paper, defScope SpH.s_make_paper, fun _ => true⟩ b_make_paper (defBody SpH.s_make_paper) = true := by decide +kernel
def ps_Row_init : List Str := ["self", "names", "before", "after"]
theorem sc_Row_init : FnScope n_Row_init ps_Row_init (defScope SpH.s_Row_init) := ⟨rfl, rfl, rfl, by decide +kernel, rfl, by decide +kernel, by decide +kernel⟩
theorem ck_Row_init : chkSs ⟨n_Row_init, defScope SpH.s_Row_init, fun _ => true⟩ b_Row_init (defBody SpH.s_Row_init) = true := by decide +kernel
def ps_Knowing_init : List Str := ["self", "setting", "question", "readings", "plan"]
theorem sc_Knowing_init : FnScope n_Knowing_init ps_Knowing_init (defScope SpH.s_Knowing_init) := ⟨rfl, rfl, rfl, by decide +kernel, rfl, by decide +kernel, by decide +kernel⟩
theorem ck_Knowing_init : chkSs ⟨n_Knowing_init, defScope SpH.s_Knowing_init, fun _ => true⟩ b_Knowing_init (defBody SpH.s_Knowing_init) = true := by decide +kernel
def ps_far : List Str := ["self", "thing", "moment", "box"]
theorem sc_far : FnScope n_far ps_far (defScope SpH.s_far) := ⟨rfl, rfl, rfl, by decide +kernel, rfl, by decide +kernel, by decide +kernel⟩
theorem ck_far : chkSs ⟨n_far, defScope SpH.s_far, fun _ => true⟩ b_far (defBody SpH.s_far) = true := by decide +kernel
def ps_left_out : List Str := ["self", "names", "last", "moment", "box"]
theorem sc_left_out : FnScope n_left_out ps_left_out (defScope SpH.s_left_out) := ⟨rfl, rfl, rfl, by decide +kernel, rfl, by decide +kernel, by decide +kernel⟩
theorem ck_left_out : chkSs ⟨n_left_out, defScope SpH.s_left_out, fun _ => true⟩ b_left_out (defBody SpH.s_left_out) = true := by decide +kernel
def ps_make_cover : List Str := ["self", "names", "last", "moment"]
theorem sc_make_cover : FnScope n_make_cover ps_make_cover (defScope SpH.s_make_cover) := ⟨rfl, rfl, rfl, by decide +kernel, rfl, by decide +kernel, by decide +kernel⟩
theorem ck_make_cover : chkSs ⟨n_make_cover, defScope SpH.s_make_cover, fun _ => true⟩ b_make_cover (defBody SpH.s_make_cover) = true := by decide +kernel
def ps_add : List Str := ["self", "names", "last", "moment"]
theorem sc_add : FnScope n_add ps_add (defScope SpH.s_add) := ⟨rfl, rfl, rfl, by decide +kernel, rfl, by decide +kernel, by decide +kernel⟩
theorem ck_add : chkSs ⟨n_add, defScope SpH.s_add, fun _ => true⟩ b_add (defBody SpH.s_add) = true := by decide +kernel
def ps_add_row : List Str := ["self", "names", "moments"]
theorem sc_add_row : FnScope n_add_row ps_add_row (defScope SpH.s_add_row) := ⟨rfl, rfl, rfl, by decide +kernel, rfl, by decide +kernel, by decide +kernel⟩
theorem ck_add_row : chkSs ⟨n_add_row, defScope SpH.s_add_row, fun _ => true⟩ b_add_row (defBody SpH.s_add_row) = true := by decide +kernel
def ps_know : List Str := ["setting", "question", "readings", "plan"]
theorem sc_know : FnScope n_know ps_know (defScope SpH.s_know) := ⟨rfl, rfl, rfl, by decide +kernel, rfl, by decide +kernel, by decide +kernel⟩
theorem ck_know : chkSs ⟨n_know, defScope SpH.s_know, fun _ => true⟩ b_know (defBody SpH.s_know) = true := by decide +kernel
def ps_Plan_init : List Str := ["self", "moments", "grain", "most", "without"]
theorem sc_Plan_init : FnScope n_Plan_init ps_Plan_init (defScope SpH.s_Plan_init) := ⟨rfl, rfl, rfl, by decide +kernel, rfl, by decide +kernel, by decide +kernel⟩
theorem ck_Plan_init : chkSs ⟨n_Plan_init, defScope SpH.s_Plan_init, fun _ => true⟩ b_Plan_init (defBody SpH.s_Plan_init) = true := by decide +kernel
def ps_law_rows : List Str := ["_law_script", "_law_count"]
theorem sc_law_rows : FnScope n_law_rows ps_law_rows (defScope SpH.s_law_rows) := ⟨rfl, rfl, rfl, by decide +kernel, rfl, by decide +kernel, by decide +kernel⟩
theorem ck_law_rows : chkSs ⟨n_law_rows, defScope SpH.s_law_rows, fun _ => true⟩ b_law_rows (defBody SpH.s_law_rows) = true := by decide +kernel
def ps_law_root : List Str := ["_law_number"]
theorem sc_law_root : FnScope n_law_root ps_law_root (defScope SpH.s_law_root) := ⟨rfl, rfl, rfl, by decide +kernel, rfl, by decide +kernel, by decide +kernel⟩
theorem ck_law_root : chkSs ⟨n_law_root, defScope SpH.s_law_root, fun _ => true⟩ b_law_root (defBody SpH.s_law_root) = true := by decide +kernel
def ps_law_up : List Str := ["_law_number"]
theorem sc_law_up : FnScope n_law_up ps_law_up (defScope SpH.s_law_up) := ⟨rfl, rfl, rfl, by decide +kernel, rfl, by decide +kernel, by decide +kernel⟩
theorem ck_law_up : chkSs ⟨n_law_up, defScope SpH.s_law_up, fun _ => true⟩ b_law_up (defBody SpH.s_law_up) = true := by decide +kernel
def ps_law_digits : List Str := ["_law_row", "_law_base", "_law_count"]
theorem sc_law_digits : FnScope n_law_digits ps_law_digits (defScope SpH.s_law_digits) := ⟨rfl, rfl, rfl, by decide +kernel, rfl, by decide +kernel, by decide +kernel⟩
theorem ck_law_digits : chkSs ⟨n_law_digits, defScope SpH.s_law_digits, fun _ => true⟩ b_law_digits (defBody SpH.s_law_digits) = true := by decide +kernel
def ps_law_setting : List Str := ["_law_row"]
theorem sc_law_setting : FnScope n_law_setting ps_law_setting (defScope SpH.s_law_setting) := ⟨rfl, rfl, rfl, by decide +kernel, rfl, by decide +kernel, by decide +kernel⟩
theorem ck_law_setting : chkSs ⟨n_law_setting, defScope SpH.s_law_setting, fun _ => true⟩ b_law_setting (defBody SpH.s_law_setting) = true := by decide +kernel
def ps_law_velocity : List Str := ["_law_setting_here", "_law_row"]
theorem sc_law_velocity : FnScope n_law_velocity ps_law_velocity (defScope SpH.s_law_velocity) := ⟨rfl, rfl, rfl, by decide +kernel, rfl, by decide +kernel, by decide +kernel⟩
theorem ck_law_velocity : chkSs ⟨n_law_velocity, defScope SpH.s_law_velocity, fun _ => true⟩ b_law_velocity (defBody SpH.s_law_velocity) = true := by decide +kernel
def ps_law_at : List Str := ["_law_way_here", "_law_moment"]
theorem sc_law_at : FnScope n_law_at ps_law_at (defScope SpH.s_law_at) := ⟨rfl, rfl, rfl, by decide +kernel, rfl, by decide +kernel, by decide +kernel⟩
theorem ck_law_at : chkSs ⟨n_law_at, defScope SpH.s_law_at, fun _ => true⟩ b_law_at (defBody SpH.s_law_at) = true := by decide +kernel
def ps_law_way : List Str := ["_law_setting_here", "_law_rows_here"]
theorem sc_law_way : FnScope n_law_way ps_law_way (defScope SpH.s_law_way) := ⟨rfl, rfl, rfl, by decide +kernel, rfl, by decide +kernel, by decide +kernel⟩
theorem ck_law_way : chkSs ⟨n_law_way, defScope SpH.s_law_way, fun _ => true⟩ b_law_way (defBody SpH.s_law_way) = true := by decide +kernel
def ps_law_square : List Str := ["_law_one", "_law_two"]
theorem sc_law_square : FnScope n_law_square ps_law_square (defScope SpH.s_law_square) := ⟨rfl, rfl, rfl, by decide +kernel, rfl, by decide +kernel, by decide +kernel⟩
theorem ck_law_square : chkSs ⟨n_law_square, defScope SpH.s_law_square, fun _ => true⟩ b_law_square (defBody SpH.s_law_square) = true := by decide +kernel
def ps_law_piece : List Str := ["_law_place", "_law_at_here", "_law_to"]
theorem sc_law_piece : FnScope n_law_piece ps_law_piece (defScope SpH.s_law_piece) := ⟨rfl, rfl, rfl, by decide +kernel, rfl, by decide +kernel, by decide +kernel⟩
theorem ck_law_piece : chkSs ⟨n_law_piece, defScope SpH.s_law_piece, fun _ => true⟩ b_law_piece (defBody SpH.s_law_piece) = true := by decide +kernel
def ps_law_boxes : List Str := ["_law_place", "_law_boxes_here"]
theorem sc_law_boxes : FnScope n_law_boxes ps_law_boxes (defScope SpH.s_law_boxes) := ⟨rfl, rfl, rfl, by decide +kernel, rfl, by decide +kernel, by decide +kernel⟩
theorem ck_law_boxes : chkSs ⟨n_law_boxes, defScope SpH.s_law_boxes, fun _ => true⟩ b_law_boxes (defBody SpH.s_law_boxes) = true := by decide +kernel
def ps_law_value : List Str := ["_law_kind_here", "_law_place", "_law_clock"]
theorem sc_law_value : FnScope n_law_value ps_law_value (defScope SpH.s_law_value) := ⟨rfl, rfl, rfl, by decide +kernel, rfl, by decide +kernel, by decide +kernel⟩
theorem ck_law_value : chkSs ⟨n_law_value, defScope SpH.s_law_value, fun _ => true⟩ b_law_value (defBody SpH.s_law_value) = true := by decide +kernel
def ps_law_point : List Str := ["_law_dims", "_law_row"]
theorem sc_law_point : FnScope n_law_point ps_law_point (defScope SpH.s_law_point) := ⟨rfl, rfl, rfl, by decide +kernel, rfl, by decide +kernel, by decide +kernel⟩
theorem ck_law_point : chkSs ⟨n_law_point, defScope SpH.s_law_point, fun _ => true⟩ b_law_point (defBody SpH.s_law_point) = true := by decide +kernel
def ps_law_kind : List Str := ["_law_dims", "_law_row"]
theorem sc_law_kind : FnScope n_law_kind ps_law_kind (defScope SpH.s_law_kind) := ⟨rfl, rfl, rfl, by decide +kernel, rfl, by decide +kernel, by decide +kernel⟩
theorem ck_law_kind : chkSs ⟨n_law_kind, defScope SpH.s_law_kind, fun _ => true⟩ b_law_kind (defBody SpH.s_law_kind) = true := by decide +kernel
def ps_law_moved : List Str := ["_law_kind_here", "_law_shift"]
theorem sc_law_moved : FnScope n_law_moved ps_law_moved (defScope SpH.s_law_moved) := ⟨rfl, rfl, rfl, by decide +kernel, rfl, by decide +kernel, by decide +kernel⟩
theorem ck_law_moved : chkSs ⟨n_law_moved, defScope SpH.s_law_moved, fun _ => true⟩ b_law_moved (defBody SpH.s_law_moved) = true := by decide +kernel
def ps_law_reading : List Str := ["_law_way_here", "_law_dims", "_law_name", "_law_row", "_law_lies"]
theorem sc_law_reading : FnScope n_law_reading ps_law_reading (defScope SpH.s_law_reading) := ⟨rfl, rfl, rfl, by decide +kernel, rfl, by decide +kernel, by decide +kernel⟩
theorem ck_law_reading : chkSs ⟨n_law_reading, defScope SpH.s_law_reading, fun _ => true⟩ b_law_reading (defBody SpH.s_law_reading) = true := by decide +kernel
def ps_law_readings : List Str := ["_law_way_here", "_law_dims", "_law_rows_here", "_law_many", "_law_names", "_law_liars"]
theorem sc_law_readings : FnScope n_law_readings ps_law_readings (defScope SpH.s_law_readings) := ⟨rfl, rfl, rfl, by decide +kernel, rfl, by decide +kernel, by decide +kernel⟩
theorem ck_law_readings : chkSs ⟨n_law_readings, defScope SpH.s_law_readings, fun _ => true⟩ b_law_readings (defBody SpH.s_law_readings) = true := by decide +kernel
def ps_law_question : List Str := ["_law_way_here", "_law_dims", "_law_row", "_law_liars"]
theorem sc_law_question : FnScope n_law_question ps_law_question (defScope SpH.s_law_question) := ⟨rfl, rfl, rfl, by decide +kernel, rfl, by decide +kernel, by decide +kernel⟩
theorem ck_law_question : chkSs ⟨n_law_question, defScope SpH.s_law_question, fun _ => true⟩ b_law_question (defBody SpH.s_law_question) = true := by decide +kernel
def ps_law_plan : List Str := ["_law_question_here", "_law_readings_here", "_law_rows_here", "_law_names"]
theorem sc_law_plan : FnScope n_law_plan ps_law_plan (defScope SpH.s_law_plan) := ⟨rfl, rfl, rfl, by decide +kernel, rfl, by decide +kernel, by decide +kernel⟩
theorem ck_law_plan : chkSs ⟨n_law_plan, defScope SpH.s_law_plan, fun _ => true⟩ b_law_plan (defBody SpH.s_law_plan) = true := by decide +kernel
def ps_law_case : List Str := ["_law_script"]
theorem sc_law_case : FnScope n_law_case ps_law_case (defScope SpH.s_law_case) := ⟨rfl, rfl, rfl, by decide +kernel, rfl, by decide +kernel, by decide +kernel⟩
theorem ck_law_case : chkSs ⟨n_law_case, defScope SpH.s_law_case, fun _ => true⟩ b_law_case (defBody SpH.s_law_case) = true := by decide +kernel
def ps_law_made : List Str := ["_law_setting_here", "_law_question_here", "_law_readings_here", "_law_plan_here", "_law_honest"]
theorem sc_law_made : FnScope n_law_made ps_law_made (defScope SpH.s_law_made) := ⟨rfl, rfl, rfl, by decide +kernel, rfl, by decide +kernel, by decide +kernel⟩
theorem ck_law_made : chkSs ⟨n_law_made, defScope SpH.s_law_made, fun _ => true⟩ b_law_made (defBody SpH.s_law_made) = true := by decide +kernel
def ps_law : List Str := ["_law_script"]
theorem sc_law : FnScope n_law ps_law (defScope SpH.s_law) := ⟨rfl, rfl, rfl, by decide +kernel, rfl, by decide +kernel, by decide +kernel⟩
theorem ck_law : chkSs ⟨n_law, defScope SpH.s_law, fun _ => true⟩ b_law (defBody SpH.s_law) = true := by decide +kernel
end Sp
end
section
set_option Elab.async false
set_option linter.all false
set_option maxRecDepth 100000
set_option maxHeartbeats 2000000
/-! What the top has left, by its facts (printed by gen_asm.py). -/
namespace Sp
open PySem PySem.Spec PyProof.Rows L2
/-- what is known of the heap behind the top -/
structure Ctx (w : World) (K : PySem.W.Frag) (mg : Str → Option Value) (base : Heap) : Prop where
  X : K.In base
  N : base.Ns mainGlobals mg
  c : SpH.obsK K = SpH.valM w
abbrev mkG (w : World) (K : PySem.W.Frag) (mg : Str → Option Value) (base : Heap) : Gc := ⟨PySem.Challenge.rw_sureplace_k78_whole_who_is_shown_to_lie.prog, w, K, mg, base, fun c => He.ga K (cname c)⟩
section
variable {w : World} {K : PySem.W.Frag} {mg : Str → Option Value} {base : Heap}
theorem Ctx.t (x : Ctx w K mg base) : He.SaysT SpH.fa SpH.fn SpH.ts w K := congrArg (fun z : SpH.AlM => z.1) x.c
theorem Ctx.e (x : Ctx w K mg base) : SpH.ex K = true := congrArg (fun z : SpH.AlM => z.2) x.c
structure Exs (K : PySem.W.Frag) : Prop where
  isq : PySem.W.nsIn K mainGlobals "isqrt" = some (some (.builtin "math.isqrt"))
  pk : PySem.W.kitOne K (.ref (He.ga K "Paper")) (.ref (He.ga K "Paper")) = some true
  pkN : PySem.W.kitOne K (.type "NoneType") (.ref (He.ga K "Paper")) = some false
  pkT : PySem.W.kitOne K (.type "tuple") (.ref (He.ga K "Paper")) = some false
  ha : PySem.W.findIn K (.ref (He.ga K "Paper")) "__class__" = some (some (.builtin "object.__class__"))
  hn : PySem.W.specialIn K (.builtin "object.__class__") "__get__" = some (some (.builtin "getset_descriptor.__get__"))
  htk : PySem.W.takesIn K (.builtin "object.__class__") = some true
  hm : PySem.W.mroIn K (He.ga K "Paper") (.type "object") = some true
  pts : ∀ z ∈ kinds4, ∃ r, PySem.W.nsIn K (He.ga K "POINTS") z = some r ∧ r.isSome = true
  hon : ∀ H, SqT K H (SpH.kwAt ("judge_paper", none) "honest" K) []
theorem Ctx.exs (x : Ctx w K mg base) : Exs K := by
  have e := x.e
  unfold SpH.ex at e
  obtain ⟨e1, e⟩ := He.ba e
  obtain ⟨e2, e⟩ := He.ba e
  obtain ⟨e3, e⟩ := He.ba e
  obtain ⟨e4, e⟩ := He.ba e
  obtain ⟨e5, e⟩ := He.ba e
  obtain ⟨e6, e⟩ := He.ba e
  obtain ⟨e7, e⟩ := He.ba e
  obtain ⟨e8, e⟩ := He.ba e
  obtain ⟨e9, e10⟩ := He.ba e
  refine ⟨He.eqO_ok e1, of_decide_eq_true e2, of_decide_eq_true e3, of_decide_eq_true e4, He.eqO_ok e5, He.eqO_ok e6, of_decide_eq_true e7, of_decide_eq_true e8, fun z hz => ?_, fun H => ?_⟩
  · have h := List.all_eq_true.mp e9 z hz
    cases q : PySem.W.nsIn K (He.ga K "POINTS") z with
    | none => rw [q] at h; cases h
    | some r => rw [q] at h; exact ⟨r, rfl, h⟩
  · cases q : K.lookup (SpH.kwAt ("judge_paper", none) "honest" K) with
    | none => rw [q] at e10; cases e10
    | some ob =>
      obtain ⟨oc, od, dt, osl⟩ := ob
      rw [q] at e10
      cases oc with
      | type c =>
        cases dt with
        | seq its n =>
          obtain ⟨h1, h2⟩ := He.ba (show (decide (c = "tuple") && its.isEmpty) = true from e10)
          refine .inr ⟨_, its, n, q, congrArg Value.type (of_decide_eq_true h1), rfl, ?_, ?_⟩
          · rw [Array.isEmpty_iff.mp h2]; decide
          · rw [Array.isEmpty_iff.mp h2]; exact .nil
        | _ => cases e10
      | _ => cases dt <;> cases e10
theorem Ctx.blt (x : Ctx w K mg base) : ∀ y ∈ (["len", "max", "min", "sum", "all", "any", "abs", "int", "tuple", "sorted", "range", "zip", "enumerate", "isinstance"] : List Str), mg y = none := by
  intro y hy
  simp only [List.mem_cons, List.not_mem_nil, or_false] at hy
  rcases hy with rfl | rfl | rfl | rfl | rfl | rfl | rfl | rfl | rfl | rfl | rfl | rfl | rfl | rfl
  · exact He.free_ok x.X x.N (x.t.d.fact 124 (f := .free "len") rfl)
  · exact He.free_ok x.X x.N (x.t.d.fact 125 (f := .free "max") rfl)
  · exact He.free_ok x.X x.N (x.t.d.fact 126 (f := .free "min") rfl)
  · exact He.free_ok x.X x.N (x.t.d.fact 127 (f := .free "sum") rfl)
  · exact He.free_ok x.X x.N (x.t.d.fact 128 (f := .free "all") rfl)
  · exact He.free_ok x.X x.N (x.t.d.fact 129 (f := .free "any") rfl)
  · exact He.free_ok x.X x.N (x.t.d.fact 130 (f := .free "abs") rfl)
  · exact He.free_ok x.X x.N (x.t.d.fact 131 (f := .free "int") rfl)
  · exact He.free_ok x.X x.N (x.t.d.fact 132 (f := .free "tuple") rfl)
  · exact He.free_ok x.X x.N (x.t.d.fact 133 (f := .free "sorted") rfl)
  · exact He.free_ok x.X x.N (x.t.d.fact 134 (f := .free "range") rfl)
  · exact He.free_ok x.X x.N (x.t.d.fact 135 (f := .free "zip") rfl)
  · exact He.free_ok x.X x.N (x.t.d.fact 136 (f := .free "enumerate") rfl)
  · exact He.free_ok x.X x.N (x.t.d.fact 137 (f := .free "isinstance") rfl)
theorem glb_int {G : Gc} {g : Nat} {i : Int} {y : Str} (hn : gname g = y) (hv : gval g = .int i) (h : ∃ t, G.mg y = some (.int i t)) : ∃ u v, G.mg (gname g) = some u ∧ RelV v u ∧ ∀ H, Is G H (gval g) v := by
  obtain ⟨t, h⟩ := h
  exact ⟨.int i t, .int i, by rw [hn]; exact h, ⟨t, rfl⟩, fun H => by rw [hv]; rfl⟩
theorem glb_str {G : Gc} {g : Nat} {z y : Str} (hn : gname g = y) (hv : gval g = .str z) (h : ∃ t, G.mg y = some (.str z t)) : ∃ u v, G.mg (gname g) = some u ∧ RelV v u ∧ ∀ H, Is G H (gval g) v := by
  obtain ⟨t, h⟩ := h
  exact ⟨.str z t, .str z, by rw [hn]; exact h, ⟨t, rfl⟩, fun H => by rw [hv]; rfl⟩
theorem Ctx.glb (x : Ctx w K mg base) : ∀ g, g < 12 → ∃ u v, mg (gname g) = some u ∧ RelV v u ∧ ∀ H, Is (mkG w K mg base) H (gval g) v

  | 0, _ => glb_int (G := mkG w K mg base) rfl rfl (He.int_ok x.X x.N (x.t.d.fact 138 (f := .int "MOST" 1000000000000) rfl))
  | 1, _ => glb_int (G := mkG w K mg base) rfl rfl (He.int_ok x.X x.N (x.t.d.fact 139 (f := .int "MOST_SIGNS" 64) rfl))
  | 2, _ => glb_str (G := mkG w K mg base) rfl rfl (He.str_ok x.X x.N (x.t.d.fact 149 (f := .str "SIGNS" "abcdefghijklmnopqrstuvwxyz0123456789_-") rfl))
  | 3, _ => glb_int (G := mkG w K mg base) rfl rfl (He.int_ok x.X x.N (x.t.d.fact 140 (f := .int "MOST_VALUE" 1000000000000000) rfl))
  | 4, _ => glb_int (G := mkG w K mg base) rfl rfl (He.int_ok x.X x.N (x.t.d.fact 141 (f := .int "MOST_DIRECTION" 1000) rfl))
  | 5, _ => glb_int (G := mkG w K mg base) rfl rfl (He.int_ok x.X x.N (x.t.d.fact 142 (f := .int "MOST_BOXES" 16) rfl))
  | 6, _ => glb_int (G := mkG w K mg base) rfl rfl (He.int_ok x.X x.N (x.t.d.fact 143 (f := .int "MOST_LIARS" 3) rfl))
  | 7, _ => glb_int (G := mkG w K mg base) rfl rfl (He.int_ok x.X x.N (x.t.d.fact 144 (f := .int "MOST_DEEP" 240) rfl))
  | 8, _ => glb_int (G := mkG w K mg base) rfl rfl (He.int_ok x.X x.N (x.t.d.fact 145 (f := .int "MOST_CUTS" 160) rfl))
  | 9, _ => glb_int (G := mkG w K mg base) rfl rfl (He.int_ok x.X x.N (x.t.d.fact 146 (f := .int "LOOKS" 8) rfl))
  | 10, _ => glb_int (G := mkG w K mg base) rfl rfl (He.int_ok x.X x.N (x.t.d.fact 147 (f := .int "MOST_MOMENTS" 16) rfl))
  | 11, _ => glb_int (G := mkG w K mg base) rfl rfl (He.int_ok x.X x.N (x.t.d.fact 148 (f := .int "MOST_LISTS" 8) rfl))
  | g + 12, h => absurd h (by omega)
theorem Ctx.cls (x : Ctx w K mg base) : ∀ c, c < 11 → Cls K (He.ga K (cname c))
  | 0, _ => He.cls_ok (x.t.d.fact 81 (f := .cls "Setting") rfl)
  | 1, _ => He.cls_ok (x.t.d.fact 85 (f := .cls "Reading") rfl)
  | 2, _ => He.cls_ok (x.t.d.fact 89 (f := .cls "Question") rfl)
  | 3, _ => He.cls_ok (x.t.d.fact 93 (f := .cls "Marks") rfl)
  | 4, _ => He.cls_ok (x.t.d.fact 97 (f := .cls "Held") rfl)
  | 5, _ => He.cls_ok (x.t.d.fact 101 (f := .cls "Known") rfl)
  | 6, _ => He.cls_ok (x.t.d.fact 105 (f := .cls "Paper") rfl)
  | 7, _ => He.cls_ok (x.t.d.fact 109 (f := .cls "Standing") rfl)
  | 8, _ => He.cls_ok (x.t.d.fact 113 (f := .cls "Row") rfl)
  | 9, _ => He.cls_ok (x.t.d.fact 117 (f := .cls "Knowing") rfl)
  | 10, _ => He.cls_ok (x.t.d.fact 121 (f := .cls "Plan") rfl)
  | c + 11, h => absurd h (by omega)
theorem Ctx.mkr (x : Ctx w K mg base) : ∀ c, c < 11 → Mk K (He.ga K (cname c)) (He.fAd K (cname c, some ("__init__" : Str)))
  | 0, _ => He.mkr_ok (x.t.d.fact 82 (f := .mkr "Setting") rfl)
  | 1, _ => He.mkr_ok (x.t.d.fact 86 (f := .mkr "Reading") rfl)
  | 2, _ => He.mkr_ok (x.t.d.fact 90 (f := .mkr "Question") rfl)
  | 3, _ => He.mkr_ok (x.t.d.fact 94 (f := .mkr "Marks") rfl)
  | 4, _ => He.mkr_ok (x.t.d.fact 98 (f := .mkr "Held") rfl)
  | 5, _ => He.mkr_ok (x.t.d.fact 102 (f := .mkr "Known") rfl)
  | 6, _ => He.mkr_ok (x.t.d.fact 106 (f := .mkr "Paper") rfl)
  | 7, _ => He.mkr_ok (x.t.d.fact 110 (f := .mkr "Standing") rfl)
  | 8, _ => He.mkr_ok (x.t.d.fact 114 (f := .mkr "Row") rfl)
  | 9, _ => He.mkr_ok (x.t.d.fact 118 (f := .mkr "Knowing") rfl)
  | 10, _ => He.mkr_ok (x.t.d.fact 122 (f := .mkr "Plan") rfl)
  | c + 11, h => absurd h (by omega)
theorem Ctx.gcl (x : Ctx w K mg base) : ∀ c, c < 11 → mg (cname c) = some (.ref (He.ga K (cname c)))
  | 0, _ => He.glo_ok x.X x.N (x.t.d.fact 80 (f := .glo "Setting") rfl)
  | 1, _ => He.glo_ok x.X x.N (x.t.d.fact 84 (f := .glo "Reading") rfl)
  | 2, _ => He.glo_ok x.X x.N (x.t.d.fact 88 (f := .glo "Question") rfl)
  | 3, _ => He.glo_ok x.X x.N (x.t.d.fact 92 (f := .glo "Marks") rfl)
  | 4, _ => He.glo_ok x.X x.N (x.t.d.fact 96 (f := .glo "Held") rfl)
  | 5, _ => He.glo_ok x.X x.N (x.t.d.fact 100 (f := .glo "Known") rfl)
  | 6, _ => He.glo_ok x.X x.N (x.t.d.fact 104 (f := .glo "Paper") rfl)
  | 7, _ => He.glo_ok x.X x.N (x.t.d.fact 108 (f := .glo "Standing") rfl)
  | 8, _ => He.glo_ok x.X x.N (x.t.d.fact 112 (f := .glo "Row") rfl)
  | 9, _ => He.glo_ok x.X x.N (x.t.d.fact 116 (f := .glo "Knowing") rfl)
  | 10, _ => He.glo_ok x.X x.N (x.t.d.fact 120 (f := .glo "Plan") rfl)
  | c + 11, h => absurd h (by omega)
theorem Ctx.noa (x : Ctx w K mg base) : ∀ c, c < 11 → ∀ f ∈ cf c, NoAttr K (He.ga K (cname c)) (fname f)
  | 0, _ => by
    intro f hf
    have hf : f ∈ ([0, 1, 2, 3] : List Nat) := hf
    simp only [List.mem_cons, List.not_mem_nil, or_false] at hf
    rcases hf with rfl | rfl | rfl | rfl
    · exact He.noat_ok (x.t.d.fact 151 (f := .noat "Setting" "dims") rfl)
    · exact He.noat_ok (x.t.d.fact 152 (f := .noat "Setting" "speed") rfl)
    · exact He.noat_ok (x.t.d.fact 153 (f := .noat "Setting" "drift") rfl)
    · exact He.noat_ok (x.t.d.fact 154 (f := .noat "Setting" "per") rfl)
  | 1, _ => by
    intro f hf
    have hf : f ∈ ([4, 5, 6, 7, 8, 9, 10] : List Nat) := hf
    simp only [List.mem_cons, List.not_mem_nil, or_false] at hf
    rcases hf with rfl | rfl | rfl | rfl | rfl | rfl | rfl
    · exact He.noat_ok (x.t.d.fact 155 (f := .noat "Reading" "source") rfl)
    · exact He.noat_ok (x.t.d.fact 156 (f := .noat "Reading" "moment") rfl)
    · exact He.noat_ok (x.t.d.fact 157 (f := .noat "Reading" "kind") rfl)
    · exact He.noat_ok (x.t.d.fact 158 (f := .noat "Reading" "low") rfl)
    · exact He.noat_ok (x.t.d.fact 159 (f := .noat "Reading" "high") rfl)
    · exact He.noat_ok (x.t.d.fact 160 (f := .noat "Reading" "late") rfl)
    · exact He.noat_ok (x.t.d.fact 161 (f := .noat "Reading" "near") rfl)
  | 2, _ => by
    intro f hf
    have hf : f ∈ ([5, 11, 12, 13, 14, 15] : List Nat) := hf
    simp only [List.mem_cons, List.not_mem_nil, or_false] at hf
    rcases hf with rfl | rfl | rfl | rfl | rfl | rfl
    · exact He.noat_ok (x.t.d.fact 162 (f := .noat "Question" "moment") rfl)
    · exact He.noat_ok (x.t.d.fact 163 (f := .noat "Question" "root") rfl)
    · exact He.noat_ok (x.t.d.fact 164 (f := .noat "Question" "liars") rfl)
    · exact He.noat_ok (x.t.d.fact 165 (f := .noat "Question" "share") rfl)
    · exact He.noat_ok (x.t.d.fact 166 (f := .noat "Question" "earliest") rfl)
    · exact He.noat_ok (x.t.d.fact 167 (f := .noat "Question" "latest") rfl)
  | 3, _ => by
    intro f hf
    have hf : f ∈ ([16, 17] : List Nat) := hf
    simp only [List.mem_cons, List.not_mem_nil, or_false] at hf
    rcases hf with rfl | rfl
    · exact He.noat_ok (x.t.d.fact 168 (f := .noat "Marks" "left") rfl)
    · exact He.noat_ok (x.t.d.fact 169 (f := .noat "Marks" "barred") rfl)
  | 4, _ => by
    intro f hf
    have hf : f ∈ ([5, 18, 19] : List Nat) := hf
    simp only [List.mem_cons, List.not_mem_nil, or_false] at hf
    rcases hf with rfl | rfl | rfl
    · exact He.noat_ok (x.t.d.fact 170 (f := .noat "Held" "moment") rfl)
    · exact He.noat_ok (x.t.d.fact 171 (f := .noat "Held" "cover") rfl)
    · exact He.noat_ok (x.t.d.fact 172 (f := .noat "Held" "used") rfl)
  | 5, _ => by
    intro f hf
    have hf : f ∈ ([5, 18, 20] : List Nat) := hf
    simp only [List.mem_cons, List.not_mem_nil, or_false] at hf
    rcases hf with rfl | rfl | rfl
    · exact He.noat_ok (x.t.d.fact 173 (f := .noat "Known" "moment") rfl)
    · exact He.noat_ok (x.t.d.fact 174 (f := .noat "Known" "cover") rfl)
    · exact He.noat_ok (x.t.d.fact 175 (f := .noat "Known" "tree") rfl)
  | 6, _ => by
    intro f hf
    have hf : f ∈ ([21, 22, 23] : List Nat) := hf
    simp only [List.mem_cons, List.not_mem_nil, or_false] at hf
    rcases hf with rfl | rfl | rfl
    · exact He.noat_ok (x.t.d.fact 176 (f := .noat "Paper" "known") rfl)
    · exact He.noat_ok (x.t.d.fact 177 (f := .noat "Paper" "trees") rfl)
    · exact He.noat_ok (x.t.d.fact 178 (f := .noat "Paper" "steps") rfl)
  | 7, _ => by
    intro f hf
    have hf : f ∈ ([24, 25, 26, 27] : List Nat) := hf
    simp only [List.mem_cons, List.not_mem_nil, or_false] at hf
    rcases hf with rfl | rfl | rfl | rfl
    · exact He.noat_ok (x.t.d.fact 179 (f := .noat "Standing" "must") rfl)
    · exact He.noat_ok (x.t.d.fact 180 (f := .noat "Standing" "cannot") rfl)
    · exact He.noat_ok (x.t.d.fact 181 (f := .noat "Standing" "lies") rfl)
    · exact He.noat_ok (x.t.d.fact 182 (f := .noat "Standing" "tells") rfl)
  | 8, _ => by
    intro f hf
    have hf : f ∈ ([28, 29, 30] : List Nat) := hf
    simp only [List.mem_cons, List.not_mem_nil, or_false] at hf
    rcases hf with rfl | rfl | rfl
    · exact He.noat_ok (x.t.d.fact 183 (f := .noat "Row" "names") rfl)
    · exact He.noat_ok (x.t.d.fact 184 (f := .noat "Row" "before") rfl)
    · exact He.noat_ok (x.t.d.fact 185 (f := .noat "Row" "after") rfl)
  | 9, _ => by
    intro f hf
    have hf : f ∈ ([31, 32, 33, 34, 21, 35] : List Nat) := hf
    simp only [List.mem_cons, List.not_mem_nil, or_false] at hf
    rcases hf with rfl | rfl | rfl | rfl | rfl | rfl
    · exact He.noat_ok (x.t.d.fact 186 (f := .noat "Knowing" "setting") rfl)
    · exact He.noat_ok (x.t.d.fact 187 (f := .noat "Knowing" "question") rfl)
    · exact He.noat_ok (x.t.d.fact 188 (f := .noat "Knowing" "readings") rfl)
    · exact He.noat_ok (x.t.d.fact 189 (f := .noat "Knowing" "plan") rfl)
    · exact He.noat_ok (x.t.d.fact 190 (f := .noat "Knowing" "known") rfl)
    · exact He.noat_ok (x.t.d.fact 191 (f := .noat "Knowing" "held") rfl)
  | 10, _ => by
    intro f hf
    have hf : f ∈ ([36, 37, 38, 39] : List Nat) := hf
    simp only [List.mem_cons, List.not_mem_nil, or_false] at hf
    rcases hf with rfl | rfl | rfl | rfl
    · exact He.noat_ok (x.t.d.fact 192 (f := .noat "Plan" "moments") rfl)
    · exact He.noat_ok (x.t.d.fact 193 (f := .noat "Plan" "grain") rfl)
    · exact He.noat_ok (x.t.d.fact 194 (f := .noat "Plan" "most") rfl)
    · exact He.noat_ok (x.t.d.fact 195 (f := .noat "Plan" "without") rfl)
  | c + 11, h => absurd h (by omega)
theorem Ctx.gok (x : Ctx w K mg base) : GOk (mkG w K mg base) where
  blt := x.blt
  isq := PySem.W.mg_of x.X x.N x.exs.isq
  glb := x.glb
  pts := by
    obtain ⟨es, n, h⟩ := x.t.tab 0 (t := (fun K => He.ga K "POINTS", ["range", "clocked", "differ", "piece"])) rfl
    exact ⟨_, es, n, He.glo_ok x.X x.N (x.t.d.fact 150 (f := .glo "POINTS") rfl), h, x.exs.pts⟩
  cls := x.cls
  noa := x.noa
  pmg := x.gcl 6 (by decide)
  pcl := fun a dx fs H h => .ins h (x.cls 6 (by decide)) x.exs.ha x.exs.hn x.exs.htk x.exs.hm
  pk := x.exs.pk
  pkN := x.exs.pkN
  pkT := x.exs.pkT
end
/-! ### the calls of a body -/
mutual
def cE : E → List (Option Nat × Ent)
  | .op _ a b => cE a ++ cE b
  | .neg a => cE a
  | .cmp _ a b => cE a ++ cE b
  | .isN a => cE a
  | .notN a => cE a
  | .ch2 _ _ a b d => cE a ++ (cE b ++ cE d)
  | .ch3 _ _ _ a b d e => cE a ++ (cE b ++ (cE d ++ cE e))
  | .and a b => cE a ++ cE b
  | .or a b => cE a ++ cE b
  | .not a => cE a
  | .ife c a b => cE c ++ (cE a ++ cE b)
  | .attr a _ => cE a
  | .idx a b => cE a ++ cE b
  | .slLo a b => cE a ++ cE b
  | .slHi a b => cE a ++ cE b
  | .slB a b d => cE a ++ (cE b ++ cE d)
  | .rev a => cE a
  | .lst es => cEs es
  | .lstM es => cEs es
  | .tup es => cEs es
  | .repM a b => cE a ++ cE b
  | .lc a _ it q _ => cE a ++ (cIt it ++ cE q)
  | .call f es ks => (none, f) :: (cEs es ++ cEs ks)
  | .meth c f e es => (some c, f) :: (cE e ++ cEs es)
  | .bi _ es => cEs es
  | .isP a => cE a
  | .inP a => cE a
  | .pop a => cE a
  | .frz a => cE a
  | _ => []
def cEs : Es → List (Option Nat × Ent)
  | .nil => []
  | .cons e r => cE e ++ cEs r
def cIt : It → List (Option Nat × Ent)
  | .seq e => cE e
  | .seqM e => cE e
  | .rng1 e => cE e
  | .rng2 a b => cE a ++ cE b
  | .zip a b => cE a ++ cE b
  | .enum e => cE e
end
mutual
def cS : S → List (Option Nat × Ent)
  | .asg _ e => cE e
  | .asgT _ e => cE e
  | .asgX a i e => cE a ++ (cE i ++ cE e)
  | .fld a _ e => cE a ++ cE e
  | .aug _ e => cE e
  | .app l e => cE l ++ cE e
  | .exp e => cE e
  | .iff c a b => cE c ++ (cSs a ++ cSs b)
  | .forr _ it b => cIt it ++ cSs b
  | .whil c b => cE c ++ cSs b
  | .ret e => cE e
  | .brk => []
  | .nev => []
def cSs : Ss → List (Option Nat × Ent)
  | .nil => []
  | .cons s r => cS s ++ cSs r
end
/-- a call's promise, a method's -/
def okP (pc : Ent → Prop) (pm : Nat → Ent → Prop) : Option Nat × Ent → Prop
  | (none, f) => pc f
  | (some c, f) => pm c f
section
variable {pc : Ent → Prop} {pm : Nat → Ent → Prop}
theorem fl {P : Option Nat × Ent → Prop} {l r : List (Option Nat × Ent)} (h : ∀ p ∈ l ++ r, P p) : ∀ p ∈ l, P p := fun p hp => h p (List.mem_append_left _ hp)
theorem fr {P : Option Nat × Ent → Prop} {l r : List (Option Nat × Ent)} (h : ∀ p ∈ l ++ r, P p) : ∀ p ∈ r, P p := fun p hp => h p (List.mem_append_right _ hp)
theorem ft {P : Option Nat × Ent → Prop} {q : Option Nat × Ent} {r : List (Option Nat × Ent)} (h : ∀ p ∈ q :: r, P p) : ∀ p ∈ r, P p := fun p hp => h p (List.mem_cons_of_mem _ hp)
theorem fh {P : Option Nat × Ent → Prop} {q : Option Nat × Ent} {r : List (Option Nat × Ent)} (h : ∀ p ∈ q :: r, P p) : P q := h q List.mem_cons_self
theorem f0 {P : Option Nat × Ent → Prop} : ∀ p ∈ ([] : List (Option Nat × Ent)), P p := fun p hp => nomatch hp
theorem f1 {P : Option Nat × Ent → Prop} {q : Option Nat × Ent} {r : List (Option Nat × Ent)} (h : P q) (t : ∀ p ∈ r, P p) : ∀ p ∈ q :: r, P p := fun p hp => by
  rcases List.mem_cons.mp hp with e | e
  · rw [e]; exact h
  · exact t p e
mutual
theorem all_E : ∀ e : E, (∀ p ∈ cE e, okP pc pm p) → allE pc pm e
  | .op _ a b, h => ⟨all_E a (fl h), all_E b (fr h)⟩
  | .neg a, h => all_E a h
  | .cmp _ a b, h => ⟨all_E a (fl h), all_E b (fr h)⟩
  | .isN a, h => all_E a h
  | .notN a, h => all_E a h
  | .ch2 _ _ a b d, h => ⟨all_E a (fl h), all_E b (fl (fr h)), all_E d (fr (fr h))⟩
  | .ch3 _ _ _ a b d e, h => ⟨all_E a (fl h), all_E b (fl (fr h)), all_E d (fl (fr (fr h))), all_E e (fr (fr (fr h)))⟩
  | .and a b, h => ⟨all_E a (fl h), all_E b (fr h)⟩
  | .or a b, h => ⟨all_E a (fl h), all_E b (fr h)⟩
  | .not a, h => all_E a h
  | .ife c a b, h => ⟨all_E c (fl h), all_E a (fl (fr h)), all_E b (fr (fr h))⟩
  | .attr a _, h => all_E a h
  | .idx a b, h => ⟨all_E a (fl h), all_E b (fr h)⟩
  | .slLo a b, h => ⟨all_E a (fl h), all_E b (fr h)⟩
  | .slHi a b, h => ⟨all_E a (fl h), all_E b (fr h)⟩
  | .slB a b d, h => ⟨all_E a (fl h), all_E b (fl (fr h)), all_E d (fr (fr h))⟩
  | .rev a, h => all_E a h
  | .lst es, h => all_Es es h
  | .lstM es, h => all_Es es h
  | .tup es, h => all_Es es h
  | .repM a b, h => ⟨all_E a (fl h), all_E b (fr h)⟩
  | .lc a _ it q _, h => ⟨all_E a (fl h), all_It it (fl (fr h)), all_E q (fr (fr h))⟩
  | .call f es ks, h => ⟨fh h, all_Es es (fl (ft h)), all_Es ks (fr (ft h))⟩
  | .meth c f e es, h => ⟨fh h, all_E e (fl (ft h)), all_Es es (fr (ft h))⟩
  | .bi _ es, h => all_Es es h
  | .isP a, h => all_E a h
  | .inP a, h => all_E a h
  | .pop a, h => all_E a h
  | .frz a, h => all_E a h
  | .var _, _ => True.intro
  | .int _, _ => True.intro
  | .str _, _ => True.intro
  | .non, _ => True.intro
  | .bl _, _ => True.intro
  | .glob _, _ => True.intro
theorem all_Es : ∀ es : Es, (∀ p ∈ cEs es, okP pc pm p) → allEs pc pm es
  | .nil, _ => True.intro
  | .cons e r, h => ⟨all_E e (fl h), all_Es r (fr h)⟩
theorem all_It : ∀ it : It, (∀ p ∈ cIt it, okP pc pm p) → allIt pc pm it
  | .seq e, h => all_E e h
  | .seqM e, h => all_E e h
  | .rng1 e, h => all_E e h
  | .rng2 a b, h => ⟨all_E a (fl h), all_E b (fr h)⟩
  | .zip a b, h => ⟨all_E a (fl h), all_E b (fr h)⟩
  | .enum e, h => all_E e h
end
mutual
theorem all_S : ∀ s : S, (∀ p ∈ cS s, okP pc pm p) → allS pc pm s
  | .asg _ e, h => all_E e h
  | .asgT _ e, h => all_E e h
  | .asgX a i e, h => ⟨all_E a (fl h), all_E i (fl (fr h)), all_E e (fr (fr h))⟩
  | .fld a _ e, h => ⟨all_E a (fl h), all_E e (fr h)⟩
  | .aug _ e, h => all_E e h
  | .app l e, h => ⟨all_E l (fl h), all_E e (fr h)⟩
  | .exp e, h => all_E e h
  | .iff c a b, h => ⟨all_E c (fl h), all_Ss a (fl (fr h)), all_Ss b (fr (fr h))⟩
  | .forr _ it b, h => ⟨all_It it (fl h), all_Ss b (fr h)⟩
  | .whil c b, h => ⟨all_E c (fl h), all_Ss b (fr h)⟩
  | .ret e, h => all_E e h
  | .brk, _ => True.intro
  | .nev, _ => True.intro
theorem all_Ss : ∀ s : Ss, (∀ p ∈ cSs s, okP pc pm p) → allSs pc pm s
  | .nil, _ => True.intro
  | .cons s r, h => ⟨all_S s (fl h), all_Ss r (fr h)⟩
end
end
/-! ### a def, its promise -/
abbrev OK (G : Gc) (k : Nat) : Option Nat × Ent → Prop := okP (CallOk G k) (MethOk G k)
abbrev FDo (K : PySem.W.Frag) (d : He.DefD) (fd : FuncData) : Prop := FunD K d.name d.qual d.params d.body d.scope (d.dvs K) (d.kws K) (He.fAd K d.at_) fd
structure Df (G : Gc) (k : Nat) (d : He.DefD) (ps : List Str) (sem : Sm) : Prop where
  ex : ∃ fd, FDo G.K d fd ∧ FnOk G.P G.w G.K G.mg G.base CX0 k (He.fAd G.K d.at_) fd ps (spOf G sem)
section
variable {w : World} {K : PySem.W.Frag} {mg : Str → Option Value} {base : Heap} {k n : Nat} {d : He.DefD} {N ps ks : List Str} {b : Ss} {pr sem : Sm} {l : List (Option Nat × Ent)} {name : Str}
theorem df_of (x : Ctx w K mg base) (i : Nat) (hi : SpH.fn[i]? = some d) (S : FnScope N ps d.scope) (hc : chkSs ⟨N, d.scope, fun _ => true⟩ b d.body = true) (hd : Does N ps.length b pr) (he : cSs b = l) (h : ∀ p ∈ l, OK (mkG w K mg base) k p) : Df (mkG w K mg base) (k + 1) d ps pr := by
  obtain ⟨fd, F⟩ := x.t.d.def_ i hi
  refine ⟨fd, F, fn_imp (fn_forg (fn_by (G := mkG w K mg base) x.gok F S b (all_Ss b ?_) hc)) hd⟩
  rw [he]
  exact h
/-- nothing is promised: nothing is to be shown -/
theorem df_no (x : Ctx w K mg base) (i : Nat) (hi : SpH.fn[i]? = some d) : Df (mkG w K mg base) 0 d ps (fun _ _ _ => False) := by
  obtain ⟨fd, F⟩ := x.t.d.def_ i hi
  exact ⟨fd, F, ⟨fun vs H Q E ⟨_, _, _, _, _, z, _⟩ => z.elim, fun A outer s H args us vs Q E _ _ _ _ ⟨_, _, _, _, _, z, _⟩ => z.elim⟩⟩
theorem Df.mono {G : Gc} {j : Nat} (D : Df G j d ps sem) (h : j ≤ k) : Df G k d ps sem := by
  obtain ⟨fd, F, o⟩ := D.ex
  exact ⟨fd, F, o.mono h⟩
theorem c_pos (x : Ctx w K mg base) (D : Df (mkG w K mg base) k d ps sem) (i : Nat) (hi : SpH.fa[i]? = some (.glo name)) (ha : d.at_ = (name, none)) (hb : ∀ fd, FDo K d fd → Binds K fd ps []) : CallOk (mkG w K mg base) k ⟨name, n, [], sem⟩ := by
  obtain ⟨fd, F, o⟩ := D.ex
  have hg : mg name = some (.ref (He.fAd K d.at_)) := by
    rw [ha]
    exact He.glo_ok x.X x.N (x.t.d.fact i hi)
  exact CallOk.imp (call_pos (n := n) (dfl := []) o hg F.kp (hb fd F) .nil (fun _ => rfl)) fun ds M P _ h => by
    show sem (ds ++ []) M P
    rw [List.append_nil]
    exact h
theorem kb0 {K : PySem.W.Frag} {y qual : Str} {params : Arguments} {body : List Stmt} {scope : Scope} {kws : List (Str × V)} {f : Addr} {fd : FuncData} {ps ks : List Str} {n : Nat} (F : FunD K y qual params body scope [] kws f fd)
    (h : ∀ (kV doc pm : Value) (an : Option Addr) (cdv ct : Value) (us ws : List Value), us.length = n → ws.length = ks.length → bindArgs (PySem.W.fnOf y qual params body scope .none kV doc pm an cdv ct) ⟨us, ks.zip ws⟩ = pure (ps.zip (us ++ ws))) :
    KBn K fd ps n ks (fun us ws => us ++ ws) (fun vs zs => vs ++ zs) := by
  obtain ⟨oc, od, dV, kV, doc, pm, an, cdv, ct, osl, rfl, lk, hcd, hD, hK⟩ := F.ex
  rcases hD with ⟨_, rfl⟩ | ⟨e, _⟩
  · exact ⟨fun s us ws X l1 l2 => .of_eq (h kV doc pm an cdv ct us ws l1 l2), fun r rz => r.append rz⟩
  · exact absurd rfl e
theorem c_kw (x : Ctx w K mg base) (D : Df (mkG w K mg base) k d ps sem) (i : Nat) (hi : SpH.fa[i]? = some (.glo name)) (ha : d.at_ = (name, none)) (hb : ∀ fd, FDo K d fd → KBn K fd ps n ks (fun us ws => us ++ ws) (fun vs zs => vs ++ zs)) (hne : ks ≠ []) : CallOk (mkG w K mg base) k ⟨name, n, ks, sem⟩ := by
  obtain ⟨fd, F, o⟩ := D.ex
  have hg : mg name = some (.ref (He.fAd K d.at_)) := by
    rw [ha]
    exact He.glo_ok x.X x.N (x.t.d.fact i hi)
  have q := hb fd F
  exact CallOk.imp (call_kw (dfl := []) (dV := []) o hg F.kp ⟨q.to, fun {vs us zs ws} r rz => by rw [List.append_nil]; exact q.rel r rz⟩ (fun _ => rfl) hne) fun ds M P _ h => by
    show sem (ds ++ []) M P
    rw [List.append_nil]
    exact h
theorem c_mkp (x : Ctx w K mg base) (cl : Nat) (hcl : cl < 11) (D : Df (mkG w K mg base) k d ps pr) (ha : d.at_ = (cname cl, some ("__init__" : Str))) (hb : ∀ fd, FDo K d fd → Binds K fd ps []) (hs : ∀ ds M P, sem ds M P → semMake cl pr ds M P) : CallOk (mkG w K mg base) (k + 1) ⟨cname cl, n, [], sem⟩ := by
  obtain ⟨fd, F, o⟩ := D.ex
  have mk : Mk K (He.ga K (cname cl)) (He.fAd K d.at_) := by
    rw [ha]
    exact x.mkr cl hcl
  exact CallOk.imp (make_pos (G := mkG w K mg base) (n := n) (cl := cl) o mk (x.gcl cl hcl) (hb fd F)) fun ds M P _ h => hs ds M P h
theorem c_mkk (x : Ctx w K mg base) (cl : Nat) (hcl : cl < 11) (D : Df (mkG w K mg base) k d ps pr) (ha : d.at_ = (cname cl, some ("__init__" : Str))) (hb : ∀ fd, FDo K d fd → KBn K fd ps (n + 1) ks (fun us ws => us ++ ws) (fun vs zs => vs ++ zs)) (hne : ks ≠ []) (hs : ∀ ds M P, sem ds M P → semMake cl pr ds M P) : CallOk (mkG w K mg base) (k + 1) ⟨cname cl, n, ks, sem⟩ := by
  obtain ⟨fd, F, o⟩ := D.ex
  have mk : Mk K (He.ga K (cname cl)) (He.fAd K d.at_) := by
    rw [ha]
    exact x.mkr cl hcl
  exact CallOk.imp (make_kw (G := mkG w K mg base) (n := n) (cl := cl) o mk (x.gcl cl hcl) (hb fd F) hne) fun ds M P _ h => hs ds M P h
theorem c_meth (x : Ctx w K mg base) (cl : Nat) (hcl : cl < 11) (D : Df (mkG w K mg base) k d ps sem) (i : Nat) (hi : SpH.fa[i]? = some (.meth (cname cl) name)) (ha : d.at_ = (cname cl, some name)) (hb : ∀ fd, FDo K d fd → Binds K fd ps []) (hno : (cn cl).contains name = false) : MethOk (mkG w K mg base) k cl ⟨name, n, [], sem⟩ := by
  obtain ⟨fd, F, o⟩ := D.ex
  have hm : Meth K (He.ga K (cname cl)) name (He.fAd K d.at_) := by
    rw [ha]
    exact He.meth_ok (x.t.d.fact i hi)
  exact meth_ok (G := mkG w K mg base) x.gok hcl o hm (hb fd F) hno
end
end Sp
end
section
set_option Elab.async false
set_option linter.all false
set_option maxRecDepth 100000
/-! Sums, roots, what the walks want of numbers. -/
namespace Sp
open PySem L2
theorem does {N : List Str} {n : Nat} {b : Ss} {pr : Sm} (h : ∀ ds M P, pr ds M P → ds.length = n ∧ ∀ R : D → Mem → Prop, (∀ d M', P d M' → R d M') → (∀ d M' M'', Mem.le M'' M' → P d M'' → R d M') →
    wpSs b (ds.map some ++ List.replicate (N.length - ds.length) none) M { nx := fun _ M' => R .non M', rt := R }) : Does N n b pr := fun ds M P hp => by
  obtain ⟨h1, h2⟩ := h ds M P hp
  exact ⟨h1, h2 (fun d M' => ∃ M'' : Mem, M''.le M' ∧ P d M'') (fun d M' hd => ⟨M', Mem.le_refl, hd⟩) (fun d M' M'' hl hd => ⟨M'', hl, hd⟩)⟩
theorem cm1 {i j : Int} (h : -(2 ^ 64) < i ∧ i < 2 ^ 64) : CMul i j := .inl h
theorem cm2 {i j : Int} (h : -(2 ^ 64) < j ∧ j < 2 ^ 64) : CMul i j := .inr h
theorem sum_bd {α : Type} (f : α → Int) (K : Int) : ∀ L : List α, (∀ a ∈ L, 0 ≤ f a ∧ f a ≤ K) → 0 ≤ (L.map f).sum ∧ (L.map f).sum ≤ K * L.length
  | [], _ => by simp
  | a :: L, h => by
    have h1 := h a (by simp)
    have h2 := sum_bd f K L fun b hb => h b (by simp [hb])
    rw [List.map_cons, List.sum_cons, List.length_cons, Int.natCast_add, Int.mul_add]
    constructor
    · omega
    · have : K * ((1 : Nat) : Int) = K := by simp
      rw [this]; omega
theorem sum_bd4 {α : Type} {f : α → Int} {K : Int} {L : List α} (hl : L.length ≤ 4) (hK : 0 ≤ K) (h : ∀ a ∈ L, 0 ≤ f a ∧ f a ≤ K) : 0 ≤ (L.map f).sum ∧ (L.map f).sum ≤ 4 * K := by
  have := sum_bd f K L h
  refine ⟨this.1, Int.le_trans this.2 ?_⟩
  rw [Int.mul_comm]
  exact Int.mul_le_mul_of_nonneg_right (by omega) hK
theorem sq_bd {x K : Int} (h : -K ≤ x ∧ x ≤ K) : 0 ≤ x * x ∧ x * x ≤ K * K := by
  constructor
  · rcases Int.le_total 0 x with h0 | h0
    · exact Int.mul_nonneg h0 h0
    · exact Int.mul_nonneg_of_nonpos_of_nonpos h0 h0
  · rcases Int.le_total 0 x with h0 | h0
    · exact Int.mul_le_mul h.2 h.2 h0 (by omega)
    · have : x * x = (-x) * (-x) := by grind
      rw [this]
      exact Int.mul_le_mul (by omega) (by omega) (by omega) (by omega)
theorem mul_bd {x y K L : Int} (hx : -K ≤ x ∧ x ≤ K) (hy : -L ≤ y ∧ y ≤ L) (hK : 0 ≤ K) (hL : 0 ≤ L) : -(K * L) ≤ x * y ∧ x * y ≤ K * L := by
  have a1 : 0 ≤ (K - x) * (L - y) := Int.mul_nonneg (by omega) (by omega)
  have a2 : 0 ≤ (K + x) * (L + y) := Int.mul_nonneg (by omega) (by omega)
  have a3 : 0 ≤ (K - x) * (L + y) := Int.mul_nonneg (by omega) (by omega)
  have a4 : 0 ≤ (K + x) * (L - y) := Int.mul_nonneg (by omega) (by omega)
  constructor <;> grind
theorem dot_bd {a b : Pt} {K L : Int} (hl : a.length ≤ 4) (ha : Bd K a) (hb : Bd L b) (hK : 0 ≤ K) (hL : 0 ≤ L) : -(4 * (K * L)) ≤ dotS a b ∧ dotS a b ≤ 4 * (K * L) := by
  have hz : (a.zip b).length ≤ 4 := by rw [List.length_zip]; omega
  have hm : ∀ q ∈ a.zip b, -(K * L) ≤ q.1 * q.2 ∧ q.1 * q.2 ≤ K * L := fun q hq => by
    have := List.of_mem_zip (a := q.1) (b := q.2) hq
    exact mul_bd (ha _ this.1) (hb _ this.2) hK hL
  have h0 : 0 ≤ K * L := Int.mul_nonneg hK hL
  have key : ∀ (l : List (Int × Int)), (∀ q ∈ l, -(K * L) ≤ q.1 * q.2 ∧ q.1 * q.2 ≤ K * L) → -(K * L * l.length) ≤ (l.map fun q => q.1 * q.2).sum ∧ (l.map fun q => q.1 * q.2).sum ≤ K * L * l.length := by
    intro l
    induction l with
    | nil => intro _; simp
    | cons q l ih =>
      intro h
      have h1 := h q (by simp)
      have h2 := ih fun b hb => h b (by simp [hb])
      rw [List.map_cons, List.sum_cons, List.length_cons, Int.natCast_add, Int.mul_add]
      have e : K * L * ((1 : Nat) : Int) = K * L := by simp
      rw [e]
      constructor <;> omega
  have h3 := key _ hm
  have h4 : K * L * ((a.zip b).length : Int) ≤ 4 * (K * L) := by
    rw [Int.mul_comm]
    exact Int.mul_le_mul_of_nonneg_right (by omega) h0
  unfold dotS
  constructor <;> omega
theorem dot_nn (a : Pt) : 0 ≤ dotS a a := by
  unfold dotS
  have : ∀ l : List Int, ((l.zip l).map fun q => q.1 * q.2) = l.map fun x => x * x := by
    intro l
    induction l with
    | nil => rfl
    | cons x l ih => simp [ih]
  rw [this]
  have key : ∀ l : List Int, 0 ≤ (l.map fun x => x * x).sum := by
    intro l
    induction l with
    | nil => simp
    | cons x l ih =>
      rw [List.map_cons, List.sum_cons]
      have := (sq_bd (x := x) (K := absI x) (by unfold absI; split <;> omega)).1
      omega
  exact key a
theorem minus_len {a b : Pt} : (minusS a b).length = min a.length b.length := by simp [minusS]
theorem minus_bd {a b : Pt} {K L : Int} (ha : Bd K a) (hb : Bd L b) : Bd (K + L) (minusS a b) := fun x hx => by
  unfold minusS at hx
  obtain ⟨q, hq, rfl⟩ := List.mem_map.mp hx
  have := List.of_mem_zip (a := q.1) (b := q.2) hq
  have h1 := ha _ this.1
  have h2 := hb _ this.2
  omega
theorem Bd.mono {K L : Int} {p : Pt} (h : Bd K p) (hk : K ≤ L) : Bd L p := fun x hx => by have := h x hx; omega
theorem gap_bd {x : Int} {s : Sd} {K : Int} (hx : -K ≤ x ∧ x ≤ K) (hs : -K ≤ s.1 ∧ s.1 ≤ s.2 ∧ s.2 ≤ K) : 0 ≤ gap x s ∧ gap x s ≤ 2 * K := by unfold gap max3; omega
theorem fgap_bd {x : Int} {s : Sd} {K : Int} (hx : -K ≤ x ∧ x ≤ K) (hs : -K ≤ s.1 ∧ s.1 ≤ s.2 ∧ s.2 ≤ K) : 0 ≤ fgap x s ∧ fgap x s ≤ 2 * K := by unfold fgap absI; omega
theorem bgap_bd {t s : Sd} {K : Int} (hx : -K ≤ t.1 ∧ t.1 ≤ t.2 ∧ t.2 ≤ K) (hs : -K ≤ s.1 ∧ s.1 ≤ s.2 ∧ s.2 ≤ K) : 0 ≤ bgap t s ∧ bgap t s ≤ 2 * K := by unfold bgap max3; omega
theorem ggap_bd {t s : Sd} {K : Int} (hx : -K ≤ t.1 ∧ t.1 ≤ t.2 ∧ t.2 ≤ K) (hs : -K ≤ s.1 ∧ s.1 ≤ s.2 ∧ s.2 ≤ K) : 0 ≤ ggap t s ∧ ggap t s ≤ 2 * K := by unfold ggap max5; omega
theorem POk.b6 {n : Nat} {p : Pt} (h : POk n p) : ∀ x ∈ p, -1000000 ≤ x ∧ x ≤ 1000000 := fun x hx => by have := h.bd x hx; omega
theorem near_bd6 {n : Nat} {p : Pt} {b : Bx} (hn : n ≤ 4) (hl : p.length = n) (hp : Bd 1000000 p) (hb : BOk n b) : 0 ≤ nearS p b ∧ nearS p b ≤ 16000000000000 := by
  have e : (16000000000000 : Int) = 4 * (2 * 1000000 * (2 * 1000000)) := by decide
  rw [e]
  refine sum_bd4 (by rw [List.length_zip]; omega) (by decide) fun q hq => by
    have := List.of_mem_zip (a := q.1) (b := q.2) hq
    have h := gap_bd (hp _ this.1) (hb.bd _ this.2)
    exact ⟨(sq_bd ⟨by omega, h.2⟩).1, (sq_bd ⟨by omega, h.2⟩).2⟩
theorem near_bd {n : Nat} {p : Pt} {b : Bx} (hn : n ≤ 4) (hp : POk n p) (hb : BOk n b) : 0 ≤ nearS p b ∧ nearS p b ≤ 16000000000000 := near_bd6 hn hp.len hp.b6 hb
theorem far_bd {n : Nat} {p : Pt} {b : Bx} (hn : n ≤ 4) (hp : POk n p) (hb : BOk n b) : 0 ≤ farS p b ∧ farS p b ≤ 16000000000000 := by
  have e : (16000000000000 : Int) = 4 * (2 * 1000000 * (2 * 1000000)) := by decide
  rw [e]
  refine sum_bd4 (by rw [List.length_zip, hp.len]; omega) (by decide) fun q hq => by
    have := List.of_mem_zip (a := q.1) (b := q.2) hq
    have h := fgap_bd (hp.b6 _ this.1) (hb.bd _ this.2)
    exact ⟨(sq_bd ⟨by omega, h.2⟩).1, (sq_bd ⟨by omega, h.2⟩).2⟩
theorem betw_bd {n : Nat} {b o : Bx} (hn : n ≤ 4) (hb : BOk n b) (ho : BOk n o) : 0 ≤ betw b o ∧ betw b o ≤ 16000000000000 := by
  have e : (16000000000000 : Int) = 4 * (2 * 1000000 * (2 * 1000000)) := by decide
  rw [e]
  refine sum_bd4 (by rw [List.length_zip, hb.len]; omega) (by decide) fun q hq => by
    have := List.of_mem_zip (a := q.1) (b := q.2) hq
    have h := bgap_bd (hb.bd _ this.1) (ho.bd _ this.2)
    exact ⟨(sq_bd ⟨by omega, h.2⟩).1, (sq_bd ⟨by omega, h.2⟩).2⟩
theorem grF_bd {n : Nat} {b o : Bx} (hn : n ≤ 4) (hb : BOk n b) (ho : BOk n o) : 0 ≤ grF b o ∧ grF b o ≤ 16000000000000 := by
  have e : (16000000000000 : Int) = 4 * (2 * 1000000 * (2 * 1000000)) := by decide
  rw [e]
  refine sum_bd4 (by rw [List.length_zip, hb.len]; omega) (by decide) fun q hq => by
    have := List.of_mem_zip (a := q.1) (b := q.2) hq
    have h := ggap_bd (hb.bd _ this.1) (ho.bd _ this.2)
    exact ⟨(sq_bd ⟨by omega, h.2⟩).1, (sq_bd ⟨by omega, h.2⟩).2⟩
theorem BOk.dl {n : Nat} {b : Bx} (h : BOk (n + 1) b) : BOk n b.dropLast := ⟨by rw [List.length_dropLast, h.len]; rfl, fun s hs => h.bd s (List.dropLast_subset b hs)⟩
theorem BOk.last {n : Nat} {b : Bx} (h : BOk (n + 1) b) : b.getLast? = some (lastS b) ∧ lastS b ∈ b := by
  cases e : b.getLast? with
  | none =>
    rw [List.getLast?_eq_none_iff] at e
    have := h.len; rw [e] at this; cases this
  | some s =>
    have : lastS b = s := by unfold lastS; rw [e]; rfl
    rw [this]
    exact ⟨rfl, List.mem_of_getLast? e⟩
/-! ### roots -/
theorem rd_spec {n : Int} (h : 0 ≤ n) : 0 ≤ rd n ∧ rd n * rd n ≤ n ∧ n < (rd n + 1) * (rd n + 1) := by
  have := Float64.isqrt_spec n.toNat
  unfold rd
  refine ⟨by omega, ?_, ?_⟩
  · have h1 : ((Float64.isqrt n.toNat * Float64.isqrt n.toNat : Nat) : Int) ≤ (n.toNat : Int) := by exact_mod_cast this.1
    rw [Int.natCast_mul] at h1; omega
  · have h1 : (n.toNat : Int) < (((Float64.isqrt n.toNat + 1) * (Float64.isqrt n.toNat + 1) : Nat) : Int) := by exact_mod_cast (by have := this.2; grind)
    rw [Int.natCast_mul, Int.natCast_add] at h1
    have e : ((1 : Nat) : Int) = 1 := rfl
    rw [e] at h1; omega
theorem sq_lt {a b : Int} (ha : 0 ≤ a) (hb : 0 ≤ b) (h : a * a < b * b) : a < b := by
  rcases Int.lt_or_le a b with h1 | h1
  · exact h1
  · have := Int.mul_le_mul h1 h1 hb ha; omega
theorem sq_le {a b : Int} (ha : 0 ≤ a) (hb : 0 ≤ b) (h : a * a ≤ b * b) : a ≤ b := by
  rcases Int.lt_or_le b a with h1 | h1
  · have : b * b < a * a := by
      have h2 : b * b ≤ b * a := Int.mul_le_mul_of_nonneg_left (by omega) hb
      have h3 : b * a < a * a := Int.mul_lt_mul_of_pos_right h1 (by omega)
      omega
    omega
  · exact h1
theorem rd_eq {n r : Int} (h : 0 ≤ n) (h0 : 0 ≤ r) (h1 : r * r ≤ n) (h2 : n < (r + 1) * (r + 1)) : r = rd n := by
  obtain ⟨a, b, c⟩ := rd_spec h
  have := sq_lt a (by omega) (Int.lt_of_le_of_lt b h2)
  have := sq_lt h0 (by omega) (Int.lt_of_le_of_lt h1 c)
  omega
theorem rd_bd {n : Int} (h : 0 ≤ n) (h' : n < 2 ^ 64) : 0 ≤ rd n ∧ rd n < 2 ^ 32 := by
  obtain ⟨a, b, c⟩ := rd_spec h
  refine ⟨a, sq_lt a (by decide) ?_⟩
  have : (2 : Int) ^ 32 * 2 ^ 32 = 2 ^ 64 := by decide
  omega
theorem ru_spec {n : Int} (h : 0 ≤ n) : 0 ≤ ru n ∧ n ≤ ru n * ru n ∧ ∀ a : Int, 0 ≤ a → n ≤ a * a → ru n ≤ a := by
  obtain ⟨a, b, c⟩ := rd_spec h
  unfold ru
  split
  · refine ⟨by omega, by omega, fun x hx hn => ?_⟩
    have := sq_lt a hx (by omega)
    omega
  · refine ⟨a, by omega, fun x hx hn => ?_⟩
    exact sq_le a hx (by omega)
theorem ru_bd {n : Int} (h : 0 ≤ n) (h' : n < 2 ^ 64) : 0 ≤ ru n ∧ ru n ≤ 2 ^ 32 := by
  have := rd_bd h h'
  unfold ru
  split <;> omega
theorem rd_le {n a : Int} (h : 0 ≤ n) (ha : 0 ≤ a) (hn : n ≤ a * a) : rd n ≤ a := by
  obtain ⟨x, y, _⟩ := rd_spec h
  exact sq_le x ha (by omega)
theorem le_rd {n a : Int} (h : 0 ≤ n) (ha : 0 ≤ a) (hn : a * a ≤ n) : a ≤ rd n := by
  obtain ⟨x, _, z⟩ := rd_spec h
  have := sq_lt ha (by omega) (Int.lt_of_le_of_lt hn z)
  omega
theorem rd_mono {m n : Int} (h : 0 ≤ m) (hn : m ≤ n) : rd m ≤ rd n := by
  obtain ⟨x, y, _⟩ := rd_spec h
  exact le_rd (by omega) x (by omega)
theorem fm_nn {i j : Int} (h : 0 ≤ i) (hj : 0 < j) : 0 ≤ i / j := Int.ediv_nonneg h (by omega)
theorem minL_spec : ∀ {ns : List Int}, ns ≠ [] → minL ns ∈ ns ∧ ∀ y ∈ ns, minL ns ≤ y
  | [], h => absurd rfl h
  | i :: is, _ => by
    show is.foldl min i ∈ i :: is ∧ ∀ y ∈ i :: is, is.foldl min i ≤ y
    constructor
    · rcases minL_mem (ns := is) (i := i) with h | h
      · rw [h]; simp
      · simp [h]
    · intro y hy
      have := minL_le (ns := is) (i := i)
      rcases List.mem_cons.mp hy with e | h
      · rw [e]; exact this.1
      · exact this.2 y h
end Sp
end
section
set_option Elab.async false
set_option linter.all false
set_option maxRecDepth 100000
/-! Walks: pieces, spans, motion, exclusion. -/
namespace Sp
open PySem L2
theorem ite_R {p : Prop} [Decidable p] {R : D → Mem → Prop} {a b : D} {M : Mem} (h : R (if p then a else b) M) : if p then R a M else R b M := by
  split <;> simp_all
structure PieceOk (n : Nat) (p a t : Pt) : Prop where
  v : Bd 2000000 (minusS p a)
  u : Bd 200 (minusS t a)
  e : Bd 2000000 (minusS p t)
  lv : (minusS p a).length = n
  lu : (minusS t a).length = n
  le : (minusS p t).length = n
  r : -(4 * (2000000 * 200)) ≤ dotS (minusS p a) (minusS t a) ∧ dotS (minusS p a) (minusS t a) ≤ 4 * (2000000 * 200)
  w : 0 ≤ dotS (minusS t a) (minusS t a) ∧ dotS (minusS t a) (minusS t a) ≤ 4 * (200 * 200)
  vv : 0 ≤ dotS (minusS p a) (minusS p a) ∧ dotS (minusS p a) (minusS p a) ≤ 4 * (2000000 * 2000000)
  ee : 0 ≤ dotS (minusS p t) (minusS p t) ∧ dotS (minusS p t) (minusS p t) ≤ 4 * (2000000 * 2000000)
theorem piece_ok {n : Nat} {p a t : Pt} (hn : n ≤ 3) (hl : p.length = n) (hp : Bd 1000000 p) (ha : POk n a) (ht : POk n t) : PieceOk n p a t := by
  have v : Bd 2000000 (minusS p a) := (minus_bd hp ha.bd).mono (by omega)
  have u : Bd 200 (minusS t a) := (minus_bd ht.bd ha.bd).mono (by omega)
  have e : Bd 2000000 (minusS p t) := (minus_bd hp ht.bd).mono (by omega)
  have lv : (minusS p a).length = n := by rw [minus_len, hl, ha.len]; omega
  have lu : (minusS t a).length = n := by rw [minus_len, ht.len, ha.len]; omega
  have le : (minusS p t).length = n := by rw [minus_len, hl, ht.len]; omega
  exact ⟨v, u, e, lv, lu, le, dot_bd (by omega) v u (by decide) (by decide), ⟨dot_nn _, (dot_bd (by omega) u u (by decide) (by decide)).2⟩, ⟨dot_nn _, (dot_bd (by omega) v v (by decide) (by decide)).2⟩, ⟨dot_nn _, (dot_bd (by omega) e e (by decide) (by decide)).2⟩⟩
theorem d_from_piece : Does n_from_piece 3 b_from_piece p_from_piece := does fun ds M P ⟨n, p, a, t, h1, hn, hl, hp, ha, ht, hP⟩ => by
  subst h1
  refine ⟨rfl, fun R hR _ => ?_⟩
  have hR' := hR _ _ hP
  obtain ⟨v, u, e, lv, lu, le, r, w, vv, ee⟩ := piece_ok hn hl hp ha ht
  simp [b_from_piece, n_from_piece, e_minus, e_dot, -Bool.exists_bool]
  refine ⟨t, a, rfl, by have := ht.len; omega, ?_⟩
  simp [-Bool.exists_bool]
  refine ⟨p, a, rfl, by omega, ?_⟩
  simp [-Bool.exists_bool]
  refine ⟨_, _, rfl, by omega, v.mono (by omega), ?_⟩
  simp [-Bool.exists_bool]
  refine ⟨_, _, rfl, by omega, u.mono (by omega), ?_⟩
  simp [-Bool.exists_bool]
  unfold pieceS at hR'
  by_cases c1 : dotS (minusS p a) (minusS t a) ≤ 0
  · rw [if_pos c1] at hR'
    rw [if_pos c1]
    refine ⟨_, _, rfl, by omega, v.mono (by omega), ?_⟩
    simp
    exact hR'
  · rw [if_neg c1] at hR'
    rw [if_neg c1]
    by_cases c2 : dotS (minusS t a) (minusS t a) ≤ dotS (minusS p a) (minusS t a)
    · rw [if_pos c2] at hR'
      rw [if_pos c2]
      refine ⟨_, _, rfl, by omega, ?_⟩
      simp
      refine ⟨_, _, rfl, by omega, e.mono (by omega), ?_⟩
      simp
      exact hR'
    · rw [if_neg c2] at hR'
      rw [if_neg c2]
      refine ⟨_, _, rfl, by omega, v.mono (by omega), ?_⟩
      simp
      exact ⟨cm2 (by omega), cm1 (by omega), ⟨by omega, by omega⟩, hR'⟩
theorem d_reach : Does n_reach 2 b_reach p_reach := does fun ds M P ⟨n, s, t, h1, hs, h2, h3, hP⟩ => by
  subst h1
  refine ⟨rfl, fun R hR _ => ?_⟩
  have := hs.speed
  have := hs.per
  simp [b_reach, n_reach, Stg.d]
  refine ⟨cm1 (by omega), ⟨by omega, by omega⟩, hR _ _ hP⟩
theorem d_slip : Does n_slip 2 b_slip p_slip := does fun ds M P ⟨n, s, t, h1, hs, h2, h3, hP⟩ => by
  subst h1
  refine ⟨rfl, fun R hR _ => ?_⟩
  have := hs.drift
  have := hs.per
  simp [b_slip, n_slip, Stg.d]
  refine ⟨cm1 (by omega), ⟨by omega, by omega⟩, hR _ _ hP⟩
theorem at_lastB {n : Nat} {b : Bx} (h : BOk (n + 1) b) : atI (b.map dS) (-1) = some (dS (lastS b)) := atI_last (by rw [List.getLast?_map, h.last.1]; rfl)
theorem cut_lastB {b : Bx} : cutA (b.map dS) none (some (-1)) = (b.dropLast).map dS := by rw [cut_last, List.map_dropLast]
theorem BOk.mid {n : Nat} {b : Bx} (h : BOk (n + 1) b) : (mid b).dropLast.length = n ∧ Bd 1000000 (mid b).dropLast := by
  constructor
  · simp [Sp.mid, h.len]
  · intro x hx
    have := List.dropLast_subset _ hx
    unfold Sp.mid at this
    obtain ⟨s, hs, rfl⟩ := List.mem_map.mp this
    have := h.bd s hs
    omega
theorem nonneg_of_div {a b : Int} (h : 0 ≤ a) (hb : 0 < b) (k : Int) (hk : a ≤ k) : 0 ≤ a / b ∧ a / b ≤ k := by
  refine ⟨Int.ediv_nonneg h (by omega), ?_⟩
  exact Int.le_trans (Int.ediv_le_self _ h) hk
/-- the two squares of a piece -/
theorem piece_bd {n : Nat} {p a t : Pt} (o : PieceOk n p a t) (hcs : dotS (minusS p a) (minusS t a) * dotS (minusS p a) (minusS t a) ≤ dotS (minusS p a) (minusS p a) * dotS (minusS t a) (minusS t a)) :
    (0 ≤ (pieceS p a t).1 ∧ (pieceS p a t).1 ≤ 16000000000000) ∧ 0 ≤ (pieceS p a t).2 ∧ (pieceS p a t).2 ≤ 16000000000000 := by
  have h1 := o.vv
  have h2 := o.ee
  have h3 := o.w
  unfold pieceS
  split
  · exact ⟨⟨h1.1, by omega⟩, h1.1, by omega⟩
  · split
    · exact ⟨⟨h2.1, by omega⟩, h2.1, by omega⟩
    · rename_i c1 c2
      generalize dotS (minusS p a) (minusS p a) = vv at *
      generalize dotS (minusS t a) (minusS t a) = w at *
      generalize dotS (minusS p a) (minusS t a) = r at *
      have hw : 0 < w := by omega
      have hq : 0 ≤ vv * w - r * r := by omega
      have hr : 0 ≤ r * r := Int.mul_nonneg (by omega) (by omega)
      have hq2 : vv * w - r * r ≤ vv * w := by omega
      refine ⟨⟨Int.ediv_nonneg hq (by omega), ?_⟩, ?_, ?_⟩
      · have := Int.ediv_le_ediv (a := vv * w - r * r) (b := vv * w) hw hq2
        rw [Int.mul_ediv_cancel _ (by omega)] at this
        show (vv * w - r * r) / w ≤ _
        omega
      · have := Int.ediv_le_ediv (a := -(vv * w - r * r)) (b := 0) hw (by omega)
        rw [Int.zero_ediv] at this
        show 0 ≤ -(-(vv * w - r * r) / w)
        omega
      · have e : -vv * w = -(vv * w) := Int.neg_mul _ _
        have := Int.ediv_le_ediv (a := -vv * w) (b := -(vv * w - r * r)) hw (by omega)
        rw [Int.mul_ediv_cancel _ (by omega)] at this
        show -(-(vv * w - r * r) / w) ≤ _
        omega
theorem d_farther : Does n_farther 4 b_farther p_farther := does fun ds M P ⟨n, s, t, b, o, h1, hs, h2, h3, hb, ho, hP⟩ => by
  subst h1
  refine ⟨rfl, fun R hR _ => ?_⟩
  have hR' := hR _ _ hP
  have sp := hs.speed
  have dr := hs.drift
  have pr := hs.per
  have n3 : n ≤ 3 := by have := hs.n23; omega
  have hst := mul_bd (x := s.speed) (y := t) (K := 8) (L := 10000) (by omega) (by omega) (by decide) (by decide)
  have hpp := mul_bd (x := s.per) (y := s.per) (K := 3) (L := 3) (by omega) (by omega) (by decide) (by decide)
  have eb := at_lastB hb
  have eo := at_lastB ho
  unfold fartherS at hR'
  simp [b_farther, n_farther, Stg.d, dB, e_between, cut_lastB, -Bool.exists_bool]
  refine ⟨cm1 (by omega), cm1 (by omega), n, b.dropLast, o.dropLast, by simp [dB], n3, hb.dl, ho.dl, ?_⟩
  simp [-Bool.exists_bool]
  refine ⟨cm1 (by omega), cm1 (by omega), ?_⟩
  simp [eb, eo, dS, -Bool.exists_bool]
  split
  · rename_i c
    rw [if_pos c] at hR'
    exact hR'
  · rename_i c
    rw [if_neg c] at hR'
    exact ⟨cm1 (by omega), cm1 (by omega), hR'⟩
theorem d_widened : Does n_widened 3 b_widened p_widened := does fun ds M P ⟨n, s, t, b, h1, hs, h2, h3, hb, hP⟩ => by
  subst h1
  refine ⟨rfl, fun R hR _ => ?_⟩
  have hR' := hR _ _ hP
  have el : atI (b.map dS) (-1) = some (dS (lastS b)) := by
    refine atI_last ?_
    rw [List.getLast?_map]
    unfold lastS
    cases e : b.getLast? with
    | none => rw [List.getLast?_eq_none_iff] at e; rw [e] at hb; cases hb
    | some x => rfl
  simp [b_widened, n_widened, dB, e_reach, e_slip, cut_lastB, -Bool.exists_bool]
  refine ⟨n, s, t, rfl, hs, h2, h3, ?_⟩
  simp [-Bool.exists_bool]
  refine ⟨n, s, t, rfl, hs, h2, h3, ?_⟩
  simp [-Bool.exists_bool, dB, cut_lastB]
  rw [← List.map_dropLast]
  have n3 := hs.n23
  refine lc_map b.dropLast _ (fun q => dS (q.1 - reachS s t, q.2 + reachS s t)) (by rw [List.length_dropLast, hb]; omega) (fun Ma hl a ha => ?_) ?_
  · simp [dS]
  · simp [el, dS]
    unfold widenS dB at hR'
    simp [dS] at hR'
    refine ⟨by rw [hb]; omega, hR'⟩
theorem d_rate : Does n_rate 1 b_rate p_rate := does fun ds M P ⟨n, k, h1, hn, hk, hP⟩ => by
  subst h1
  refine ⟨rfl, fun R hR _ => ?_⟩
  have hR' := hR _ _ hP
  cases hk <;> simp [b_rate, n_rate, Kind.d, e_root_up, e_dot, rateS, -Bool.exists_bool] at hR' ⊢
  · exact hR'
  · exact hR'
  · exact hR'
  · rename_i d hd hz _
    have := dot_bd (by rw [hd.len]; omega) hd.bd hd.bd (by decide) (by decide)
    refine ⟨d, d, rfl, by rw [hd.len]; omega, hd.bd.mono (by omega), ?_⟩
    simp
    exact ⟨_, rfl, dot_nn d, by omega, hR'⟩
  · exact hR'
  · exact hR'
theorem d_clock_rate : Does n_clock_rate 1 b_clock_rate p_clock_rate := does fun ds M P ⟨k, h1, hP⟩ => by
  subst h1
  refine ⟨rfl, fun R hR _ => ?_⟩
  have hR' := hR _ _ hP
  cases k <;> simp [b_clock_rate, n_clock_rate, Kind.d, crateS, -Bool.exists_bool] at hR' ⊢ <;> exact hR'
theorem d_moved : Does n_moved 1 b_moved p_moved := does fun ds M P ⟨k, h1, hP⟩ => by
  subst h1
  refine ⟨rfl, fun R hR _ => ?_⟩
  have hR' := hR _ _ hP
  cases k <;> simp [b_moved, n_moved, Kind.d, movedS, -Bool.exists_bool] at hR' ⊢ <;> exact hR'
theorem rate_bd {n : Nat} {k : Kind} (hn : n ≤ 3) (h : KOk n k) : 0 ≤ rateS k ∧ rateS k ≤ 4294967296 := by
  cases h <;> simp [rateS]
  rename_i d hd hz
  have := dot_bd (by rw [hd.len]; omega) hd.bd hd.bd (by decide) (by decide)
  have := ru_bd (dot_nn d) (by omega)
  omega
theorem d_carried : Does n_carried 3 b_carried p_carried := does fun ds M P ⟨n, s, r, t, h1, hs, hr, ht, hP⟩ => by
  subst h1
  refine ⟨rfl, fun R hR _ => ?_⟩
  have hR' := hR _ _ hP
  have n3 : n ≤ 3 := by have := hs.n23; omega
  have a1 := hr.late
  have a2 := hr.moment
  have a3 := rate_bd n3 hr.kind
  have a4 : 0 ≤ r.late + absI (r.moment - t) ∧ r.late + absI (r.moment - t) ≤ 10000 := by unfold absI; omega
  simp [b_carried, n_carried, Rdg.d, e_rate, e_reach, e_clock_rate, e_slip, e_moved, -Bool.exists_bool]
  refine ⟨n, r.kind, rfl, n3, hr.kind, ?_⟩
  simp [-Bool.exists_bool]
  refine ⟨n, s, _, rfl, hs, a4.1, a4.2, ?_⟩
  simp [-Bool.exists_bool]
  refine ⟨cm1 (by omega), r.kind, rfl, ?_⟩
  simp [-Bool.exists_bool]
  refine ⟨n, s, _, rfl, hs, a4.1, a4.2, ?_⟩
  simp [-Bool.exists_bool]
  have a5 : -(2 ^ 64) < crateS r.kind ∧ crateS r.kind < 2 ^ 64 := by cases r.kind <;> simp [crateS]
  have a6 : -(2 ^ 64) < movedS r.kind ∧ movedS r.kind < 2 ^ 64 := by cases r.kind <;> simp [movedS]
  refine ⟨cm1 a5, r.kind, rfl, ?_⟩
  simp [-Bool.exists_bool]
  exact ⟨cm1 a6, hR'⟩
theorem d_excludes : Does n_excludes 4 b_excludes p_excludes := does fun ds M P ⟨n, s, r, t, b, h1, hs, hr, ht, hb, hP⟩ => by
  subst h1
  refine ⟨rfl, fun R hR _ => ?_⟩
  have hR' := hR _ _ hP
  have n3 : n ≤ 3 := by have := hs.n23; omega
  simp [b_excludes, n_excludes, e_carried, e_span, -Bool.exists_bool]
  refine ⟨n, s, r, t, rfl, hs, hr, ht, ?_⟩
  simp [Rdg.d, -Bool.exists_bool]
  refine ⟨n, r.kind, b, rfl, n3, hr.kind, hb, ?_⟩
  simp [dS, -Bool.exists_bool]
  unfold exclS at hR'
  split <;> simp_all
end Sp
end
section
set_option Elab.async false
set_option linter.all false
set_option maxRecDepth 100000
/-! Plain mathematics: sums, the inequality of Cauchy and Schwarz, lengths of integer vectors. -/
namespace Sp
open PySem L2
abbrev Vc := Nat → Int
def sumN : Nat → Vc → Int
  | 0, _ => 0
  | n + 1, f => sumN n f + f n
def dt (n : Nat) (x y : Vc) : Int := sumN n fun k => x k * y k
theorem sumN_congr {n : Nat} {f g : Vc} (h : ∀ k, k < n → f k = g k) : sumN n f = sumN n g := by
  induction n with
  | zero => rfl
  | succ n ih => show sumN n f + f n = sumN n g + g n; rw [ih fun k hk => h k (by omega), h n (by omega)]
theorem sumN_le {n : Nat} {f g : Vc} (h : ∀ k, k < n → f k ≤ g k) : sumN n f ≤ sumN n g := by
  induction n with
  | zero => exact Int.le_refl _
  | succ n ih => exact Int.add_le_add (ih fun k hk => h k (by omega)) (h n (by omega))
theorem sumN_add {n : Nat} {f g : Vc} : sumN n (fun k => f k + g k) = sumN n f + sumN n g := by
  induction n with
  | zero => rfl
  | succ n ih =>
    show sumN n _ + (f n + g n) = sumN n f + f n + (sumN n g + g n)
    rw [ih]; omega
theorem sumN_mul {n : Nat} {f : Vc} {c : Int} : sumN n (fun k => c * f k) = c * sumN n f := by
  induction n with
  | zero => simp [sumN]
  | succ n ih =>
    show sumN n _ + c * f n = c * (sumN n f + f n)
    rw [ih, Int.mul_add]
theorem sumN_nn {n : Nat} {f : Vc} (h : ∀ k, k < n → 0 ≤ f k) : 0 ≤ sumN n f := by
  induction n with
  | zero => exact Int.le_refl _
  | succ n ih => exact Int.add_nonneg (ih fun k hk => h k (by omega)) (h n (by omega))
theorem sqn (x : Int) : 0 ≤ x * x := by
  rcases Int.le_total 0 x with h | h
  · exact Int.mul_nonneg h h
  · exact Int.mul_nonneg_of_nonpos_of_nonpos h h
theorem dt_nn {n : Nat} {x : Vc} : 0 ≤ dt n x x := sumN_nn fun k _ => sqn _
theorem abs_le_sq {a b : Int} (hb : 0 ≤ b) (h : a * a ≤ b * b) : -b ≤ a ∧ a ≤ b := by
  constructor
  · rcases Int.le_total 0 a with h0 | h0
    · omega
    · have := sq_le (a := -a) (b := b) (by omega) hb (by rw [Int.neg_mul_neg]; exact h); omega
  · rcases Int.le_total 0 a with h0 | h0
    · exact sq_le h0 hb h
    · omega
theorem cauchy (n : Nat) (x y : Vc) : dt n x y * dt n x y ≤ dt n x x * dt n y y := by
  induction n with
  | zero => simp [dt, sumN]
  | succ n ih =>
    show (dt n x y + x n * y n) * (dt n x y + x n * y n) ≤ (dt n x x + x n * x n) * (dt n y y + y n * y n)
    have hx : 0 ≤ dt n x x := dt_nn
    have hy : 0 ≤ dt n y y := dt_nn
    generalize dt n x y = s at *
    generalize dt n x x = p at *
    generalize dt n y y = q at *
    generalize x n = a
    generalize y n = b
    have h1 : 0 ≤ p * (b * b) + q * (a * a) := Int.add_nonneg (Int.mul_nonneg hx (sqn b)) (Int.mul_nonneg hy (sqn a))
    have h2 : (2 * (s * (a * b))) * (2 * (s * (a * b))) ≤ (p * (b * b) + q * (a * a)) * (p * (b * b) + q * (a * a)) := by
      have h3 : 0 ≤ (p * (b * b) - q * (a * a)) * (p * (b * b) - q * (a * a)) := sqn _
      have h4 : 0 ≤ (p * q - s * s) * ((a * b) * (a * b)) := Int.mul_nonneg (by omega) (sqn _)
      grind
    have h5 := (abs_le_sq h1 h2).2
    grind
/-- the vector is no longer than a -/
def Nm (n : Nat) (x : Vc) (a : Int) : Prop := 0 ≤ a ∧ dt n x x ≤ a * a
theorem dt_le {n : Nat} {x y : Vc} {a b : Int} (hx : Nm n x a) (hy : Nm n y b) : -(a * b) ≤ dt n x y ∧ dt n x y ≤ a * b := by
  have h0 : 0 ≤ a * b := Int.mul_nonneg hx.1 hy.1
  have h1 := cauchy n x y
  have h2 : dt n x x * dt n y y ≤ (a * a) * (b * b) := Int.mul_le_mul hx.2 hy.2 dt_nn (sqn a)
  exact abs_le_sq h0 (by grind)
theorem dt_add {n : Nat} {x y : Vc} : dt n (fun k => x k + y k) (fun k => x k + y k) = dt n x x + 2 * dt n x y + dt n y y := by
  unfold dt
  rw [← sumN_mul, ← sumN_add, ← sumN_add]
  exact sumN_congr fun k _ => by grind
theorem Nm.add {n : Nat} {x y : Vc} {a b : Int} (hx : Nm n x a) (hy : Nm n y b) : Nm n (fun k => x k + y k) (a + b) := by
  refine ⟨Int.add_nonneg hx.1 hy.1, ?_⟩
  rw [dt_add]
  have h1 := (dt_le hx hy).2
  have h2 := hx.2
  have h3 := hy.2
  grind
theorem sq_mono {z x : Int} (h0 : 0 ≤ z) (h : z ≤ x ∨ z ≤ -x) : z * z ≤ x * x := by
  rcases h with h | h
  · exact Int.mul_le_mul h h h0 (by omega)
  · have : z * z ≤ (-x) * (-x) := Int.mul_le_mul h h h0 (by omega)
    rwa [Int.neg_mul_neg] at this
theorem dt_dom {n : Nat} {x z : Vc} (h : ∀ k, k < n → z k * z k ≤ x k * x k) : dt n z z ≤ dt n x x := sumN_le h
theorem Nm.dom {n : Nat} {x z : Vc} {a : Int} (hx : Nm n x a) (h : ∀ k, k < n → z k * z k ≤ x k * x k) : Nm n z a := ⟨hx.1, Int.le_trans (dt_dom h) hx.2⟩
theorem Nm.congr {n : Nat} {x z : Vc} {a : Int} (hx : Nm n x a) (h : ∀ k, k < n → z k = x k ∨ z k = -x k) : Nm n z a := hx.dom fun k hk => by
  rcases h k hk with e | e <;> rw [e]
  · exact Int.le_refl _
  · rw [Int.neg_mul_neg]; exact Int.le_refl _
theorem Nm.mono {n : Nat} {x : Vc} {a b : Int} (hx : Nm n x a) (h : a ≤ b) : Nm n x b := ⟨by have := hx.1; omega, Int.le_trans hx.2 (Int.mul_le_mul h h hx.1 (by have := hx.1; omega))⟩
theorem Nm.smul {n : Nat} {x : Vc} {a c : Int} (hx : Nm n x a) (hc : 0 ≤ c) : Nm n (fun k => c * x k) (c * a) := by
  refine ⟨Int.mul_nonneg hc hx.1, ?_⟩
  have e : dt n (fun k => c * x k) (fun k => c * x k) = c * c * dt n x x := by
    unfold dt
    rw [← sumN_mul]
    exact sumN_congr fun k _ => by grind
  rw [e]
  have := Int.mul_le_mul_of_nonneg_left hx.2 (sqn c)
  grind
theorem Nm.root {n : Nat} {x : Vc} {X : Int} (h : dt n x x ≤ X) (h0 : 0 ≤ X) : Nm n x (ru X) := by
  have := ru_spec h0
  exact ⟨this.1, Int.le_trans h this.2.1⟩
/-! ### lists as vectors -/
def co (p : Pt) : Vc := fun k => p.getD k 0
def cb (b : Bx) : Nat → Sd := fun k => b.getD k (0, 0)
theorem sum_append_last {f : Nat → Int} : ∀ {n : Nat}, ((List.range n).map f).sum = sumN n f
  | 0 => rfl
  | n + 1 => by rw [List.range_succ, List.map_append, List.sum_append, sum_append_last]; simp [sumN]
theorem sum_list {α : Type} (L : List α) (f : α → Int) (d : α) : (L.map f).sum = sumN L.length fun k => f (L.getD k d) := by
  rw [← sum_append_last]
  congr 1
  apply List.ext_getElem (by simp)
  intro i h1 h2
  simp at h1
  simp [h1]
theorem zip_at {α β : Type} {p : List α} {b : List β} {k : Nat} (h1 : k < p.length) (h2 : k < b.length) : (p.zip b)[k]? = some (p[k], b[k]) := by
  rw [List.getElem?_eq_getElem (by rw [List.length_zip]; omega), List.getElem_zip]
theorem sum_zip {α β : Type} {n : Nat} (p : List α) (b : List β) (f : α × β → Int) (d : α) (e : β) (hp : p.length = n) (hb : b.length = n) : ((p.zip b).map f).sum = sumN n fun k => f (p.getD k d, b.getD k e) := by
  rw [sum_list _ f (d, e), List.length_zip, hp, hb, Nat.min_self]
  refine sumN_congr fun k hk => ?_
  congr 1
  have h1 : k < p.length := by omega
  have h2 : k < b.length := by omega
  simp [List.getD_eq_getElem?_getD, h1, h2, zip_at h1 h2]
theorem dot_dt {n : Nat} {a b : Pt} (ha : a.length = n) (hb : b.length = n) : dotS a b = dt n (co a) (co b) := sum_zip a b _ 0 0 ha hb
theorem co_minus {n : Nat} {a b : Pt} (ha : a.length = n) (hb : b.length = n) (k : Nat) (hk : k < n) : co (minusS a b) k = co a k - co b k := by
  have h1 : k < a.length := by omega
  have h2 : k < b.length := by omega
  simp [co, minusS, List.getD_eq_getElem?_getD, h1, h2, zip_at h1 h2]
theorem minus_n {n : Nat} {a b : Pt} (ha : a.length = n) (hb : b.length = n) : (minusS a b).length = n := by rw [minus_len]; omega
theorem dot_minus {n : Nat} {a b : Pt} (ha : a.length = n) (hb : b.length = n) : dotS (minusS a b) (minusS a b) = dt n (fun k => co a k - co b k) (fun k => co a k - co b k) := by
  rw [dot_dt (minus_n ha hb) (minus_n ha hb)]
  exact sumN_congr fun k hk => by rw [co_minus ha hb k hk]
theorem near_N {n : Nat} {p : Pt} {b : Bx} (hp : p.length = n) (hb : b.length = n) : nearS p b = dt n (fun k => gap (co p k) (cb b k)) (fun k => gap (co p k) (cb b k)) := sum_zip p b (fun q => gap q.1 q.2 * gap q.1 q.2) 0 (0, 0) hp hb
theorem far_N {n : Nat} {p : Pt} {b : Bx} (hp : p.length = n) (hb : b.length = n) : farS p b = dt n (fun k => fgap (co p k) (cb b k)) (fun k => fgap (co p k) (cb b k)) := sum_zip p b (fun q => fgap q.1 q.2 * fgap q.1 q.2) 0 (0, 0) hp hb
theorem betw_N {n : Nat} {p : Bx} {b : Bx} (hp : p.length = n) (hb : b.length = n) : betw p b = dt n (fun k => bgap (cb p k) (cb b k)) (fun k => bgap (cb p k) (cb b k)) := sum_zip p b (fun q => bgap q.1 q.2 * bgap q.1 q.2) (0, 0) (0, 0) hp hb
theorem grF_N {n : Nat} {p : Bx} {b : Bx} (hp : p.length = n) (hb : b.length = n) : grF p b = dt n (fun k => ggap (cb p k) (cb b k)) (fun k => ggap (cb p k) (cb b k)) := sum_zip p b (fun q => ggap q.1 q.2 * ggap q.1 q.2) (0, 0) (0, 0) hp hb
theorem dot_cs {n : Nat} {p a t : Pt} (hp : p.length = n) (ha : a.length = n) (ht : t.length = n) : dotS (minusS p a) (minusS t a) * dotS (minusS p a) (minusS t a) ≤ dotS (minusS p a) (minusS p a) * dotS (minusS t a) (minusS t a) := by
  have h1 := minus_n hp ha
  have h2 := minus_n ht ha
  rw [dot_dt h1 h2, dot_dt h1 h1, dot_dt h2 h2]
  exact cauchy _ _ _
end Sp
end
section
set_option Elab.async false
set_option linter.all false
set_option maxRecDepth 100000
/-! Plain mathematics: what a span says of the place of the world. -/
namespace Sp
open PySem L2
def InN (n : Nat) (W : Vc) (pl : Nat → Sd) : Prop := ∀ k, k < n → (pl k).1 ≤ W k ∧ W k ≤ (pl k).2
variable {n : Nat}
theorem near_le {p : Pt} {pl : Bx} {W : Vc} (hp : p.length = n) (hb : pl.length = n) (hi : InN n W (cb pl)) : nearS p pl ≤ dt n (fun k => W k - co p k) (fun k => W k - co p k) := by
  rw [near_N hp hb]
  refine dt_dom fun k hk => ?_
  have := hi k hk
  refine sq_mono (by unfold gap max3; omega) ?_
  unfold gap max3; omega
theorem far_ge {p : Pt} {pl : Bx} {W : Vc} (hp : p.length = n) (hb : pl.length = n) (hi : InN n W (cb pl)) : dt n (fun k => W k - co p k) (fun k => W k - co p k) ≤ farS p pl := by
  rw [far_N hp hb]
  refine dt_dom fun k hk => ?_
  have := hi k hk
  have h1 := (sq_bd (x := W k - co p k) (K := fgap (co p k) (cb pl k)) (by unfold fgap absI; omega)).2
  exact h1
theorem near_nn {p : Pt} {pl : Bx} (hp : p.length = n) (hb : pl.length = n) : 0 ≤ nearS p pl := by rw [near_N hp hb]; exact dt_nn
theorem far_nn {p : Pt} {pl : Bx} (hp : p.length = n) (hb : pl.length = n) : 0 ≤ farS p pl := by rw [far_N hp hb]; exact dt_nn
theorem betw_nn {p : Bx} {pl : Bx} (hp : p.length = n) (hb : pl.length = n) : 0 ≤ betw p pl := by rw [betw_N hp hb]; exact dt_nn
theorem grF_nn {p : Bx} {pl : Bx} (hp : p.length = n) (hb : pl.length = n) : 0 ≤ grF p pl := by rw [grF_N hp hb]; exact dt_nn
theorem betw_le {W : Pt} {pl o : Bx} (hW : W.length = n) (hb : pl.length = n) (ho : o.length = n) (hi : InN n (co W) (cb pl)) : betw pl o ≤ nearS W o := by
  rw [betw_N hb ho, near_N hW ho]
  refine dt_dom fun k hk => ?_
  have := hi k hk
  refine sq_mono (by unfold bgap max3; omega) ?_
  unfold bgap gap max3; omega
theorem gr_ge {W : Pt} {pl o : Bx} (hW : W.length = n) (hb : pl.length = n) (ho : o.length = n) (hi : InN n (co W) (cb pl)) : nearS W o ≤ grF pl o := by
  rw [grF_N hb ho, near_N hW ho]
  refine dt_dom fun k hk => ?_
  have := hi k hk
  refine sq_mono (by unfold gap max3; omega) ?_
  unfold ggap gap max3 max5; omega
theorem near_lip {p p' : Pt} {o : Bx} {a b : Int} (hp : p.length = n) (hp' : p'.length = n) (ho : o.length = n) (ha : 0 ≤ a) (h : nearS p o ≤ a * a) (hd : Nm n (fun k => co p k - co p' k) b) : nearS p' o ≤ (a + b) * (a + b) := by
  rw [near_N hp ho] at h
  rw [near_N hp' ho]
  have h1 : Nm n (fun k => gap (co p k) (cb o k)) a := ⟨ha, h⟩
  have h2 : Nm n (fun k => absI (co p k - co p' k)) b := hd.congr fun k _ => by unfold absI; omega
  refine ((h1.add h2).dom fun k hk => ?_).2
  refine sq_mono (by unfold gap max3; omega) (.inl ?_)
  unfold gap max3 absI; omega
/-! ### the two ends of a distance -/
theorem mvP_len {p sh : Pt} : (mvP p sh).length = p.length := by simp [mvP]
theorem co_mv {p sh : Pt} (hp : p.length = n) {k : Nat} (hk : k < n) : co (mvP p sh) k = co p k + co sh k := by
  have h1 : k < p.length := by omega
  simp [co, mvP, List.getD_eq_getElem?_getD, h1]
theorem sq2_mv {W p sh : Pt} (hW : W.length = n) (hp : p.length = n) : sq2 W (mvP p sh) = dt n (fun k => co W k - (co p k + co sh k)) (fun k => co W k - (co p k + co sh k)) := by
  unfold sq2
  rw [dot_minus hW (by rw [mvP_len]; exact hp)]
  exact sumN_congr fun k hk => by simp only [co_mv hp hk]
theorem sq2_nn {p q : Pt} : 0 ≤ sq2 p q := dot_nn _
theorem dist_low {p sh W W' : Pt} {pl : Bx} {ν ρ : Int} (hp : p.length = n) (hW : W.length = n) (hW' : W'.length = n) (hb : pl.length = n) (hi : InN n (co W) (cb pl)) (hm : Nm n (fun k => co W k - co W' k) ρ) (hs : Nm n (co sh) ν) :
    rd (nearS p pl) ≤ ru (sq2 W' (mvP p sh)) + ν + ρ := by
  have h1 : Nm n (fun k => co W' k - (co p k + co sh k)) (ru (sq2 W' (mvP p sh))) := Nm.root (by rw [sq2_mv hW' hp]; exact Int.le_refl _) sq2_nn
  have h2 := ((h1.add hs).add hm).congr (z := fun k => co W k - co p k) fun k _ => .inl (by omega)
  exact rd_le (near_nn hp hb) h2.1 (Int.le_trans (near_le hp hb hi) h2.2)
theorem dist_high {p sh W W' : Pt} {pl : Bx} {ν ρ : Int} (hp : p.length = n) (hW : W.length = n) (hW' : W'.length = n) (hb : pl.length = n) (hi : InN n (co W) (cb pl)) (hm : Nm n (fun k => co W k - co W' k) ρ) (hs : Nm n (co sh) ν) :
    rd (sq2 W' (mvP p sh)) ≤ ru (farS p pl) + ν + ρ := by
  have h1 : Nm n (fun k => co W k - co p k) (ru (farS p pl)) := Nm.root (far_ge hp hb hi) (far_nn hp hb)
  have h0 : Nm n (fun k => - co W k + co W' k) ρ := hm.congr fun k _ => .inr (by omega)
  have h0' : Nm n (fun k => - co sh k) ν := hs.congr fun k _ => .inr rfl
  have h2 := ((h1.add h0').add h0).congr (z := fun k => co W' k - (co p k + co sh k)) fun k _ => .inl (by omega)
  refine rd_le sq2_nn h2.1 ?_
  rw [sq2_mv hW' hp]; exact h2.2
/-! ### pieces -/
theorem dt_comb {v u : Vc} {w k : Int} : dt n (fun i => w * v i - k * u i) (fun i => w * v i - k * u i) = w * w * dt n v v - 2 * (w * k) * dt n v u + k * k * dt n u u := by
  unfold dt
  have e : (-(2 * (w * k))) * sumN n (fun i => v i * u i) = -(2 * (w * k) * sumN n fun i => v i * u i) := by grind
  have : sumN n (fun i => (w * v i - k * u i) * (w * v i - k * u i)) = w * w * sumN n (fun i => v i * v i) + (-(2 * (w * k))) * sumN n (fun i => v i * u i) + k * k * sumN n (fun i => u i * u i) := by
    rw [← sumN_mul, ← sumN_mul, ← sumN_mul, ← sumN_add, ← sumN_add]
    exact sumN_congr fun i _ => by grind
  rw [this, e]; omega
/-- the squares from the three products -/
def pcs (vv w r ee : Int) : Int × Int := if r ≤ 0 then (vv, vv) else if w ≤ r then (ee, ee) else ((vv * w - r * r) / w, -(-(vv * w - r * r) / w))
theorem le_of_mul {a b c : Int} (hc : 0 < c) (h : c * a ≤ c * b) : a ≤ b := Int.le_of_mul_le_mul_left h hc
theorem pcs_high {v u : Vc} {α : Int} (ha : 0 ≤ α) (hw : 0 < dt n u u) (h : (pcs (dt n v v) (dt n u u) (dt n v u) (dt n v v - 2 * dt n v u + dt n u u)).2 ≤ α * α) :
    ∃ k, 0 ≤ k ∧ k ≤ dt n u u ∧ Nm n (fun i => dt n u u * v i - k * u i) (dt n u u * α) := by
  have hx : ∀ k, dt n (fun i => dt n u u * v i - k * u i) (fun i => dt n u u * v i - k * u i) = dt n u u * (dt n u u * dt n v v - 2 * k * dt n v u + k * k) := fun k => by rw [dt_comb]; grind
  unfold pcs at h
  have key : ∀ k, dt n u u * dt n v v - 2 * k * dt n v u + k * k ≤ dt n u u * (α * α) → Nm n (fun i => dt n u u * v i - k * u i) (dt n u u * α) := fun k hk => by
    refine ⟨Int.mul_nonneg (by omega) ha, ?_⟩
    rw [hx k]
    have := Int.mul_le_mul_of_nonneg_left hk (Int.le_of_lt hw)
    grind
  split at h
  · refine ⟨0, Int.le_refl _, by omega, key 0 ?_⟩
    have := Int.mul_le_mul_of_nonneg_left h (Int.le_of_lt hw)
    simp only at this
    omega
  · split at h
    · refine ⟨dt n u u, by omega, Int.le_refl _, key _ ?_⟩
      have := Int.mul_le_mul_of_nonneg_left h (Int.le_of_lt hw)
      simp only at this
      grind
    · rename_i c1 c2
      refine ⟨dt n v u, by omega, by omega, key _ ?_⟩
      simp only at h
      have h1 : -(α * α) ≤ -(dt n v v * dt n u u - dt n v u * dt n v u) / dt n u u := by omega
      have h2 := (Int.le_ediv_iff_mul_le hw).mp h1
      grind
theorem pcs_low {v u : Vc} {γ k : Int} (hg : 0 ≤ γ) (hw : 0 < dt n u u) (h0 : 0 ≤ k) (h1 : k ≤ dt n u u) (h : Nm n (fun i => dt n u u * v i - k * u i) (dt n u u * γ)) :
    (pcs (dt n v v) (dt n u u) (dt n v u) (dt n v v - 2 * dt n v u + dt n u u)).1 ≤ γ * γ := by
  have hx : dt n (fun i => dt n u u * v i - k * u i) (fun i => dt n u u * v i - k * u i) = dt n u u * (dt n u u * dt n v v - 2 * k * dt n v u + k * k) := by rw [dt_comb]; grind
  have h2 := h.2
  rw [hx] at h2
  have h3 : dt n u u * dt n v v - 2 * k * dt n v u + k * k ≤ dt n u u * (γ * γ) := le_of_mul hw (by grind)
  unfold pcs
  generalize dt n u u = w at *
  generalize dt n v v = vv at *
  generalize dt n v u = r at *
  split
  · refine le_of_mul hw ?_
    have : 0 ≤ k * (-r) := Int.mul_nonneg h0 (by omega)
    have := sqn k
    show w * vv ≤ _
    grind
  · split
    · refine le_of_mul hw ?_
      rename_i c1 c2
      have : 0 ≤ (w - k) * (2 * r - (w + k)) := Int.mul_nonneg (by omega) (by omega)
      show w * (vv - 2 * r + w) ≤ _
      grind
    · show (vv * w - r * r) / w ≤ _
      have := sqn (r - k)
      have h4 : vv * w - r * r ≤ (γ * γ) * w := by grind
      have := Int.ediv_le_ediv hw h4
      rwa [Int.mul_ediv_cancel _ (by omega)] at this
theorem pcs_lip {v v' u : Vc} {α β : Int} (ha : 0 ≤ α) (h : (pcs (dt n v v) (dt n u u) (dt n v u) (dt n v v - 2 * dt n v u + dt n u u)).2 ≤ α * α) (hd : Nm n (fun i => v' i - v i) β) :
    (pcs (dt n v' v') (dt n u u) (dt n v' u) (dt n v' v' - 2 * dt n v' u + dt n u u)).1 ≤ (α + β) * (α + β) := by
  have hb := hd.1
  rcases Int.lt_or_le 0 (dt n u u) with hw | hw
  · obtain ⟨k, k0, k1, hk⟩ := pcs_high ha hw h
    refine pcs_low (by omega) hw k0 k1 ?_
    have h1 := hk.add (hd.smul (Int.le_of_lt hw))
    rw [← Int.mul_add] at h1
    exact h1.congr fun i _ => .inl (by grind)
  · have h0 : dt n u u = 0 := by have := dt_nn (n := n) (x := u); omega
    have r0 : ∀ x : Vc, dt n x u = 0 := fun x => by
      have := cauchy n x u
      rw [h0, Int.mul_zero] at this
      have := abs_le_sq (a := dt n x u) (b := 0) (Int.le_refl _) (by omega)
      omega
    unfold pcs at h ⊢
    rw [r0 v, if_pos (Int.le_refl _)] at h
    rw [r0 v', if_pos (Int.le_refl _)]
    have h1 : Nm n v α := ⟨ha, h⟩
    exact ((h1.add hd).congr (z := v') fun i _ => .inl (by omega)).2
theorem piece_pcs {p a t : Pt} (hp : p.length = n) (ha : a.length = n) (ht : t.length = n) : pieceS p a t =
    pcs (dt n (fun k => co p k - co a k) (fun k => co p k - co a k)) (dt n (fun k => co t k - co a k) (fun k => co t k - co a k)) (dt n (fun k => co p k - co a k) (fun k => co t k - co a k))
      (dt n (fun k => co p k - co a k) (fun k => co p k - co a k) - 2 * dt n (fun k => co p k - co a k) (fun k => co t k - co a k) + dt n (fun k => co t k - co a k) (fun k => co t k - co a k)) := by
  have e1 : dotS (minusS p a) (minusS t a) = dt n (fun k => co p k - co a k) (fun k => co t k - co a k) := by
    rw [dot_dt (minus_n hp ha) (minus_n ht ha)]
    exact sumN_congr fun k hk => by rw [co_minus hp ha k hk, co_minus ht ha k hk]
  have e2 : dt n (fun k => co p k - co t k) (fun k => co p k - co t k) = dt n (fun k => co p k - co a k) (fun k => co p k - co a k) - 2 * dt n (fun k => co p k - co a k) (fun k => co t k - co a k) + dt n (fun k => co t k - co a k) (fun k => co t k - co a k) := by
    have := dt_comb (n := n) (v := fun k => co p k - co a k) (u := fun k => co t k - co a k) (w := 1) (k := 1)
    have e : dt n (fun i => 1 * (co p i - co a i) - 1 * (co t i - co a i)) (fun i => 1 * (co p i - co a i) - 1 * (co t i - co a i)) = dt n (fun k => co p k - co t k) (fun k => co p k - co t k) := sumN_congr fun k _ => by grind
    rw [e] at this
    rw [this]; omega
  unfold pieceS pcs
  rw [e1, dot_minus hp ha, dot_minus ht ha, dot_minus hp ht, e2]
theorem piece_lip {p p' a t : Pt} {α β : Int} (hp : p.length = n) (hp' : p'.length = n) (ha : a.length = n) (ht : t.length = n) (h0 : 0 ≤ α) (h : (pieceS p a t).2 ≤ α * α) (hd : Nm n (fun k => co p' k - co p k) β) :
    (pieceS p' a t).1 ≤ (α + β) * (α + β) := by
  rw [piece_pcs hp ha ht] at h
  rw [piece_pcs hp' ha ht]
  exact pcs_lip h0 h (hd.congr fun k _ => .inl (by omega))
theorem piece_nn {p a t : Pt} (hp : p.length = n) (ha : a.length = n) (ht : t.length = n) : 0 ≤ (pieceS p a t).1 ∧ 0 ≤ (pieceS p a t).2 := by
  have hc := dot_cs hp ha ht
  have h1 := dot_nn (minusS p a)
  have h2 := dot_nn (minusS p t)
  unfold pieceS
  split
  · exact ⟨h1, h1⟩
  · split
    · exact ⟨h2, h2⟩
    · rename_i c1 c2
      have hw : 0 < dotS (minusS t a) (minusS t a) := by omega
      constructor
      · exact Int.ediv_nonneg (by omega) (by omega)
      · have := Int.ediv_le_ediv (a := -(dotS (minusS p a) (minusS p a) * dotS (minusS t a) (minusS t a) - dotS (minusS p a) (minusS t a) * dotS (minusS p a) (minusS t a))) (b := 0) hw (by omega)
        rw [Int.zero_ediv] at this
        show 0 ≤ -(_ / _)
        omega
theorem list_co {p q : Pt} (h : p.length = q.length) (hc : ∀ k, k < p.length → co p k = co q k) : p = q := by
  apply List.ext_getElem h
  intro i h1 h2
  have := hc i h1
  simpa [co, List.getD_eq_getElem?_getD, h1, h2] using this
theorem piece_shift {W a t sh : Pt} (hW : W.length = n) (ha : a.length = n) (ht : t.length = n) (hs : sh.length = n) : pieceS W (mvP a sh) (mvP t sh) = pieceS (minusS W sh) a t := by
  have ha' : (mvP a sh).length = n := by rw [mvP_len]; exact ha
  have ht' : (mvP t sh).length = n := by rw [mvP_len]; exact ht
  have hm := minus_n hW hs
  have e1 : minusS W (mvP a sh) = minusS (minusS W sh) a := list_co (by rw [minus_n hW ha', minus_n hm ha]) fun k hk => by
    rw [minus_n hW ha'] at hk
    rw [co_minus hW ha' k hk, co_minus hm ha k hk, co_minus hW hs k hk, co_mv ha hk]; omega
  have e2 : minusS (mvP t sh) (mvP a sh) = minusS t a := list_co (by rw [minus_n ht' ha', minus_n ht ha]) fun k hk => by
    rw [minus_n ht' ha'] at hk
    rw [co_minus ht' ha' k hk, co_minus ht ha k hk, co_mv ha hk, co_mv ht hk]; omega
  have e3 : minusS W (mvP t sh) = minusS (minusS W sh) t := list_co (by rw [minus_n hW ht', minus_n hm ht]) fun k hk => by
    rw [minus_n hW ht'] at hk
    rw [co_minus hW ht' k hk, co_minus hm ht k hk, co_minus hW hs k hk, co_mv ht hk]; omega
  unfold pieceS
  rw [e1, e2, e3]
theorem near_shift {W sh : Pt} {o : Bx} (hW : W.length = n) (hs : sh.length = n) (ho : o.length = n) : nearS W (mvB o sh) = nearS (minusS W sh) o := by
  have hb : (mvB o sh).length = n := by simp [mvB, ho]
  rw [near_N hW hb, near_N (minus_n hW hs) ho]
  refine sumN_congr fun k hk => ?_
  have e : cb (mvB o sh) k = ((cb o k).1 + co sh k, (cb o k).2 + co sh k) := by
    have h1 : k < o.length := by omega
    simp [cb, co, mvB, List.getD_eq_getElem?_getD, h1]
  have : gap (co W k) (cb (mvB o sh) k) = gap (co (minusS W sh) k) (cb o k) := by
    rw [e, co_minus hW hs k hk]
    unfold gap max3; omega
  simp only [this]
end Sp
end
section
set_option Elab.async false
set_option linter.all false
set_option maxRecDepth 100000
/-! Plain mathematics: a reading that tells the truth excludes no box of the world. -/
namespace Sp
open PySem L2
variable {n : Nat}
theorem minL_map_le {L : List Bx} {f : Bx → Int} {o : Bx} (h : o ∈ L) : minL (L.map f) ≤ f o := (minL_spec (by intro e; rw [List.map_eq_nil_iff] at e; rw [e] at h; cases h)).2 _ (List.mem_map_of_mem h)
theorem minL_map_mem {L : List Bx} {f : Bx → Int} (h : L ≠ []) : ∃ o ∈ L, minL (L.map f) = f o := by
  have := (minL_spec (ns := L.map f) (by intro e; exact h (List.map_eq_nil_iff.mp e))).1
  obtain ⟨o, h1, h2⟩ := List.mem_map.mp this
  exact ⟨o, h1, h2.symm⟩
theorem mid_half {pl : Bx} {W : Vc} (hb : pl.length = n) (hi : InN n W (cb pl)) : Nm n (fun k => co (mid pl) k - W k) (ru ((pl.map fun s => half s * half s).sum)) := by
  have e : (pl.map fun s => half s * half s).sum = dt n (fun k => half (cb pl k)) (fun k => half (cb pl k)) := by
    rw [sum_list pl _ (0, 0), hb]; rfl
  rw [e]
  have h1 : Nm n (fun k => half (cb pl k)) (ru (dt n (fun k => half (cb pl k)) (fun k => half (cb pl k)))) := Nm.root (Int.le_refl _) dt_nn
  refine h1.dom fun k hk => ?_
  have := hi k hk
  have em : co (mid pl) k = ((cb pl k).1 + (cb pl k).2) / 2 := by
    have h1 : k < pl.length := by omega
    simp [co, cb, mid, List.getD_eq_getElem?_getD, h1]
  rw [em]
  refine (sq_bd (x := ((cb pl k).1 + (cb pl k).2) / 2 - W k) (K := half (cb pl k)) ?_).2
  unfold half; omega
theorem side_le {d : Pt} {pl : Bx} {W : Vc} (hd : d.length = n) (hb : pl.length = n) (hi : InN n W (cb pl)) : (sideS d pl).1 ≤ dt n (co d) W ∧ dt n (co d) W ≤ (sideS d pl).2 := by
  have e1 : (sideS d pl).1 = sumN n fun k => min (co d k * (cb pl k).1) (co d k * (cb pl k).2) := sum_zip d pl (fun q => min (q.1 * q.2.1) (q.1 * q.2.2)) 0 (0, 0) hd hb
  have e2 : (sideS d pl).2 = sumN n fun k => max (co d k * (cb pl k).1) (co d k * (cb pl k).2) := sum_zip d pl (fun q => max (q.1 * q.2.1) (q.1 * q.2.2)) 0 (0, 0) hd hb
  rw [e1, e2]
  have key : ∀ k, k < n → min (co d k * (cb pl k).1) (co d k * (cb pl k).2) ≤ co d k * W k ∧ co d k * W k ≤ max (co d k * (cb pl k).1) (co d k * (cb pl k).2) := fun k hk => by
    have := hi k hk
    rcases Int.le_total 0 (co d k) with h | h
    · have a := Int.mul_le_mul_of_nonneg_left this.1 h
      have b := Int.mul_le_mul_of_nonneg_left this.2 h
      omega
    · have a := Int.mul_le_mul_of_nonpos_left h this.1
      have b := Int.mul_le_mul_of_nonpos_left h this.2
      omega
  exact ⟨sumN_le fun k hk => (key k hk).1, sumN_le fun k hk => (key k hk).2⟩
theorem span_ok {k : Kind} {pl : Bx} {ck : Sd} {W W' sh : Pt} {c c' ν ρ σ : Int} (hk : KOk n k) (hW : W.length = n) (hW' : W'.length = n) (hs : sh.length = n) (hb : pl.length = n) (hi : InN n (co W) (cb pl))
    (hc : ck.1 ≤ c ∧ c ≤ ck.2) (hm : Nm n (fun i => co W i - co W' i) ρ) (hcl : -σ ≤ c - c' ∧ c - c' ≤ σ) (hsh : Nm n (co sh) ν) :
    (spanS k (pl ++ [ck])).1 ≤ (valS (mvS k sh) W' c').2 + (movedS k * ν + (rateS k * ρ + crateS k * σ)) ∧ (valS (mvS k sh) W' c').1 ≤ (spanS k (pl ++ [ck])).2 + (movedS k * ν + (rateS k * ρ + crateS k * σ)) := by
  have ed : (pl ++ [ck]).dropLast = pl := by simp
  have el : lastS (pl ++ [ck]) = ck := by simp [lastS]
  have hρ := hm.1
  have hν := hsh.1
  cases hk with
  | range hp =>
    rename_i p
    have h1 := dist_low hp.len hW hW' hb hi hm hsh
    have h2 := dist_high hp.len hW hW' hb hi hm hsh
    simp only [spanS, dist, valS, mvS, movedS, rateS, crateS, ed]
    omega
  | clocked hp =>
    rename_i p
    have h1 := dist_low hp.len hW hW' hb hi hm hsh
    have h2 := dist_high hp.len hW hW' hb hi hm hsh
    simp only [spanS, dist, valS, mvS, movedS, rateS, crateS, ed, el]
    omega
  | differ hp hq =>
    rename_i p q
    have h1 := dist_low hp.len hW hW' hb hi hm hsh
    have h2 := dist_high hp.len hW hW' hb hi hm hsh
    have h3 := dist_low hq.len hW hW' hb hi hm hsh
    have h4 := dist_high hq.len hW hW' hb hi hm hsh
    simp only [spanS, dist, valS, mvS, movedS, rateS, crateS, ed]
    omega
  | side hd hz =>
    rename_i d
    have h1 := side_le hd.len hb hi
    have hdd : Nm n (co d) (ru (dotS d d)) := Nm.root (by rw [dot_dt hd.len hd.len]; exact Int.le_refl _) (dot_nn d)
    have h2 := dt_le hdd hm
    have e : dt n (co d) (fun i => co W i - co W' i) = dt n (co d) (co W) - dt n (co d) (co W') := by
      have : dt n (co d) (co W) = dt n (co d) (fun i => co W i - co W' i) + dt n (co d) (co W') := by
        unfold dt
        rw [← sumN_add]
        exact sumN_congr fun k _ => by grind
      omega
    rw [e] at h2
    have h3 : dotS d W' = dt n (co d) (co W') := dot_dt hd.len hW'
    simp only [spanS, valS, mvS, movedS, rateS, crateS, ed]
    omega
  | piece ha ht =>
    rename_i a t
    have em : (mid (pl ++ [ck])).dropLast = mid pl := by simp [mid]
    have er : rad (pl ++ [ck]) = ru ((pl.map fun s => half s * half s).sum) := by unfold rad; rw [ed]
    have hmid := mid_half hb hi
    rw [← er] at hmid
    have hml : (mid pl).length = n := by simp [mid, hb]
    have hws := minus_n hW' hs
    have e1 := piece_shift hW' ha.len ht.len hs
    have hsh' : Nm n (fun k => co (mid pl) k - co (minusS W' sh) k) (rad (pl ++ [ck]) + ρ + ν) := ((hmid.add hm).add hsh).congr fun k hk => .inl (by rw [co_minus hW' hs k hk]; omega)
    have hsh2 : Nm n (fun k => co (minusS W' sh) k - co (mid pl) k) (rad (pl ++ [ck]) + ρ + ν) := hsh'.congr fun k _ => .inr (by omega)
    have n1 := piece_nn hws ha.len ht.len
    have n2 := piece_nn hml ha.len ht.len
    have r1 := ru_spec n1.2
    have r2 := ru_spec n2.2
    have h1 := piece_lip hws hml ha.len ht.len r1.1 r1.2.1 hsh'
    have h2 := piece_lip hml hws ha.len ht.len r2.1 r2.2.1 hsh2
    have h3 := rd_le n2.1 (by have := hsh'.1; omega) h1
    have h4 := rd_le n1.1 (by have := hsh'.1; omega) h2
    simp only [spanS, valS, mvS, movedS, rateS, crateS, em]
    rw [e1]
    omega
  | boxes h0 h16 ho =>
    rename_i os
    have hws := minus_n hW' hs
    have hsh' : Nm n (fun k => co (minusS W' sh) k - co W k) (ρ + ν) := (hm.add hsh).congr fun k hk => .inr (by rw [co_minus hW' hs k hk]; omega)
    have hsh2 : Nm n (fun k => co W k - co (minusS W' sh) k) (ρ + ν) := hsh'.congr fun k _ => .inr (by omega)
    have e1 : ((os.map fun o => mvB o sh).map fun o => nearS W' o) = os.map fun o => nearS (minusS W' sh) o := by
      rw [List.map_map]
      exact List.map_congr_left fun o h => near_shift hW' hs (ho o h).len
    simp only [spanS, valS, mvS, movedS, rateS, crateS, ed]
    rw [e1]
    obtain ⟨o1, m1, q1⟩ := minL_map_mem (f := fun o => nearS (minusS W' sh) o) h0
    obtain ⟨o2, m2, q2⟩ := minL_map_mem (f := fun o => betw pl o) h0
    obtain ⟨o3, m3, q3⟩ := minL_map_mem (f := fun o => grF pl o) h0
    have n1 := near_nn hws (ho o1 m1).len
    have n2 := betw_nn hb (ho o2 m2).len
    have n3 := grF_nn hb (ho o3 m3).len
    constructor
    · have r1 := ru_spec n1
      have h1 := near_lip hws hW (ho o1 m1).len r1.1 r1.2.1 hsh'
      have h2 := betw_le hW hb (ho o1 m1).len hi
      have h3 := minL_map_le (f := fun o => betw pl o) m1
      rw [q1]
      have h4 := rd_le (by rw [q2]; exact n2) (by omega) (Int.le_trans (Int.le_trans h3 h2) h1)
      omega
    · have r3 := ru_spec n3
      have h2 := gr_ge hW hb (ho o3 m3).len hi
      have h1 := near_lip hW hws (ho o3 m3).len r3.1 (Int.le_trans h2 r3.2.1) hsh2
      have h3 := minL_map_le (f := fun o => nearS (minusS W' sh) o) m3
      rw [q3]
      have h4 := rd_le (by rw [q1]; exact n1) (by omega) (Int.le_trans h3 h1)
      omega
end Sp
end
section
set_option Elab.async false
set_option linter.all false
set_option maxRecDepth 100000
/-! Plain mathematics: the world goes no faster than it may; judging is sound. -/
namespace Sp
open PySem L2
variable {n : Nat} {s : Stg} {w : Way}
theorem Nm.cancel {x : Vc} {a c : Int} (hc : 0 < c) (ha : 0 ≤ a) (h : Nm n (fun k => c * x k) (c * a)) : Nm n x a := by
  refine ⟨ha, ?_⟩
  have e : dt n (fun k => c * x k) (fun k => c * x k) = c * c * dt n x x := by
    unfold dt
    rw [← sumN_mul]
    exact sumN_congr fun k _ => by grind
  have h2 := h.2
  rw [e] at h2
  exact le_of_mul (Int.mul_pos hc hc) (by grind)
theorem pl_len {t : Int} : (plS w t).length = w.place.length := by simp [plS]
theorem co_pl {t : Int} (hw : WOk n s w) {k : Nat} (hk : k < n) : co (plS w t) k = co w.place k + co (if t - w.turn < 0 then w.first else w.second) k * (t - w.turn) := by
  have h1 : k < w.place.length := by rw [hw.len]; exact hk
  simp [co, plS, List.getD_eq_getElem?_getD, h1]
theorem vel (hs : SOk n s) {v : Pt} (hl : v.length = n) (h : s.per * s.per * sqP v ≤ s.speed * s.speed) : Nm n (fun k => s.per * co v k) s.speed := by
  refine ⟨hs.speed.1, ?_⟩
  have e : dt n (fun k => s.per * co v k) (fun k => s.per * co v k) = s.per * s.per * dt n (co v) (co v) := by
    unfold dt
    rw [← sumN_mul]
    exact sumN_congr fun k _ => by grind
  rw [e]
  unfold sqP at h
  rw [dot_dt hl hl] at h
  exact h
theorem move_le (hs : SOk n s) (hw : WOk n s w) {t1 t2 : Int} (h : t1 ≤ t2) : Nm n (fun k => s.per * (co (plS w t2) k - co (plS w t1) k)) (s.speed * (t2 - t1)) := by
  have v1 := vel hs hw.lf hw.sf
  have v2 := vel hs hw.ls hw.ss
  by_cases c1 : t1 - w.turn < 0
  · by_cases c2 : t2 - w.turn < 0
    · have := v1.smul (c := t2 - t1) (by omega)
      rw [Int.mul_comm (t2 - t1) s.speed] at this
      refine this.congr fun k hk => .inl ?_
      rw [co_pl hw hk, co_pl hw hk, if_pos c1, if_pos c2]; grind
    · have a1 := v1.smul (c := w.turn - t1) (by omega)
      have a2 := v2.smul (c := t2 - w.turn) (by omega)
      have a3 := a1.add a2
      have e : (w.turn - t1) * s.speed + (t2 - w.turn) * s.speed = s.speed * (t2 - t1) := by grind
      rw [e] at a3
      refine a3.congr fun k hk => .inl ?_
      rw [co_pl hw hk, co_pl hw hk, if_pos c1, if_neg c2]; grind
  · have c2 : ¬ t2 - w.turn < 0 := by omega
    have := v2.smul (c := t2 - t1) (by omega)
    rw [Int.mul_comm (t2 - t1) s.speed] at this
    refine this.congr fun k hk => .inl ?_
    rw [co_pl hw hk, co_pl hw hk, if_neg c1, if_neg c2]; grind
theorem move (hs : SOk n s) (hw : WOk n s w) (t1 t2 : Int) : Nm n (fun k => s.per * (co (plS w t1) k - co (plS w t2) k)) (s.speed * absI (t1 - t2)) := by
  rcases Int.le_total t1 t2 with h | h
  · have e : absI (t1 - t2) = t2 - t1 := by unfold absI; omega
    rw [e]
    exact (move_le hs hw h).congr fun k _ => .inr (by grind)
  · have e : absI (t1 - t2) = t1 - t2 := by unfold absI; omega
    rw [e]
    exact move_le hs hw h
theorem absI_mul {c x : Int} (h : absI c ≤ x) {d : Int} (hd : 0 ≤ d) : -(x * d) ≤ c * d ∧ c * d ≤ x * d := by
  have h1 : -x ≤ c ∧ c ≤ x := by unfold absI at h; omega
  have a := Int.mul_le_mul_of_nonneg_right h1.1 hd
  have b := Int.mul_le_mul_of_nonneg_right h1.2 hd
  rw [Int.neg_mul] at a
  exact ⟨a, b⟩
theorem clk_le (hs : SOk n s) (hw : WOk n s w) {t1 t2 : Int} (h : t1 ≤ t2) : -(s.drift * (t2 - t1)) ≤ s.per * (ckS w t2 - ckS w t1) ∧ s.per * (ckS w t2 - ckS w t1) ≤ s.drift * (t2 - t1) := by
  have hp := hs.per
  have e1 : absI (s.per * w.early) ≤ s.drift := by
    have := hw.ce
    unfold absI at this ⊢
    rcases Int.lt_or_le w.early 0 with h0 | h0
    · have : s.per * w.early ≤ 0 := Int.mul_nonpos_of_nonneg_of_nonpos (by omega) (by omega)
      have : s.per * -w.early = -(s.per * w.early) := Int.mul_neg _ _
      split <;> split at * <;> omega
    · have : 0 ≤ s.per * w.early := Int.mul_nonneg (by omega) h0
      split <;> split at * <;> omega
  have e2 : absI (s.per * w.late) ≤ s.drift := by
    have := hw.cl
    unfold absI at this ⊢
    rcases Int.lt_or_le w.late 0 with h0 | h0
    · have : s.per * w.late ≤ 0 := Int.mul_nonpos_of_nonneg_of_nonpos (by omega) (by omega)
      have : s.per * -w.late = -(s.per * w.late) := Int.mul_neg _ _
      split <;> split at * <;> omega
    · have : 0 ≤ s.per * w.late := Int.mul_nonneg (by omega) h0
      split <;> split at * <;> omega
  unfold ckS
  by_cases c1 : t1 - w.turn < 0
  · by_cases c2 : t2 - w.turn < 0
    · have := absI_mul e1 (d := t2 - t1) (by omega)
      rw [if_pos c1, if_pos c2]
      grind
    · have a1 := absI_mul e1 (d := w.turn - t1) (by omega)
      have a2 := absI_mul e2 (d := t2 - w.turn) (by omega)
      rw [if_pos c1, if_neg c2]
      grind
  · have c2 : ¬ t2 - w.turn < 0 := by omega
    have := absI_mul e2 (d := t2 - t1) (by omega)
    rw [if_neg c1, if_neg c2]
    grind
theorem clk (hs : SOk n s) (hw : WOk n s w) (t1 t2 : Int) : -(s.drift * absI (t1 - t2)) ≤ s.per * (ckS w t1 - ckS w t2) ∧ s.per * (ckS w t1 - ckS w t2) ≤ s.drift * absI (t1 - t2) := by
  rcases Int.le_total t1 t2 with h | h
  · have e : absI (t1 - t2) = t2 - t1 := by unfold absI; omega
    rw [e]
    have := clk_le hs hw h
    grind
  · have e : absI (t1 - t2) = t1 - t2 := by unfold absI; omega
    rw [e]
    exact clk_le hs hw h
theorem reach_ge (hs : SOk n s) {t : Int} (ht : 0 ≤ t) : 0 ≤ reachS s t ∧ s.speed * t ≤ s.per * reachS s t := by
  have hp := hs.per
  have hv := hs.speed
  have h0 : 0 ≤ s.speed * t := Int.mul_nonneg hv.1 ht
  have e : -s.speed * t = -(s.speed * t) := Int.neg_mul _ _
  unfold reachS
  rw [e]
  have h1 := Int.ediv_mul_le (-(s.speed * t)) (b := s.per) (by omega)
  have h2 : -(s.speed * t) / s.per ≤ 0 := by
    have := Int.ediv_le_ediv (a := -(s.speed * t)) (b := 0) (c := s.per) (by omega) (by omega)
    rwa [Int.zero_ediv] at this
  constructor
  · omega
  · have : s.per * -(-(s.speed * t) / s.per) = -((-(s.speed * t) / s.per) * s.per) := by grind
    omega
theorem slip_ge (hs : SOk n s) {t : Int} (ht : 0 ≤ t) : 0 ≤ slipS s t ∧ s.drift * t ≤ s.per * slipS s t := by
  have hp := hs.per
  have hv := hs.drift
  have h0 : 0 ≤ s.drift * t := Int.mul_nonneg hv.1 ht
  have e : -s.drift * t = -(s.drift * t) := Int.neg_mul _ _
  unfold slipS
  rw [e]
  have h1 := Int.ediv_mul_le (-(s.drift * t)) (b := s.per) (by omega)
  have h2 : -(s.drift * t) / s.per ≤ 0 := by
    have := Int.ediv_le_ediv (a := -(s.drift * t)) (b := 0) (c := s.per) (by omega) (by omega)
    rwa [Int.zero_ediv] at this
  constructor
  · omega
  · have : s.per * -(-(s.drift * t) / s.per) = -((-(s.drift * t) / s.per) * s.per) := by grind
    omega
theorem reach_ok (hs : SOk n s) (hw : WOk n s w) {t1 t2 t : Int} (h : absI (t1 - t2) ≤ t) : Nm n (fun k => co (plS w t1) k - co (plS w t2) k) (reachS s t) := by
  have h0 : 0 ≤ absI (t1 - t2) := by unfold absI; omega
  have hr := reach_ge hs (t := t) (by omega)
  have h1 : s.speed * absI (t1 - t2) ≤ s.speed * t := Int.mul_le_mul_of_nonneg_left h hs.speed.1
  exact Nm.cancel (c := s.per) (by have := hs.per; omega) hr.1 ((move hs hw t1 t2).mono (by omega))
theorem slip_ok (hs : SOk n s) (hw : WOk n s w) {t1 t2 t : Int} (h : absI (t1 - t2) ≤ t) : -slipS s t ≤ ckS w t1 - ckS w t2 ∧ ckS w t1 - ckS w t2 ≤ slipS s t := by
  have h0 : 0 ≤ absI (t1 - t2) := by unfold absI; omega
  have hr := slip_ge hs (t := t) (by omega)
  have h1 : s.drift * absI (t1 - t2) ≤ s.drift * t := Int.mul_le_mul_of_nonneg_left h hs.drift.1
  have h2 := clk hs hw t1 t2
  have hp := hs.per
  constructor
  · refine le_of_mul (c := s.per) (by omega) ?_
    have : s.per * -slipS s t = -(s.per * slipS s t) := Int.mul_neg _ _
    omega
  · exact le_of_mul (c := s.per) (by omega) (by omega)
/-! ### in a box -/
theorem inn_parts {t : Int} {b : Bx} (hw : WOk n s w) (h : Inn w t b) : ∃ pl ck, b = pl ++ [ck] ∧ pl.length = n ∧ InN n (co (plS w t)) (cb pl) ∧ ck.1 ≤ ckS w t ∧ ckS w t ≤ ck.2 := by
  have hl := h.1
  rw [hw.len] at hl
  have hne : b ≠ [] := by intro e; rw [e] at hl; cases hl
  refine ⟨b.dropLast, b.getLast hne, (List.dropLast_concat_getLast hne).symm, by rw [List.length_dropLast, hl]; rfl, fun k hk => ?_, ?_⟩
  · have h1 := h.2 k (by omega)
    have h2 : k < (plS w t).length := by rw [pl_len, hw.len]; exact hk
    have e1 : (plS w t ++ [ckS w t]).getD k 0 = co (plS w t) k := by
      simp only [co, List.getD_eq_getElem?_getD]
      rw [List.getElem?_append_left h2]
    have e2 : cb b.dropLast k = b.getD k (0, 0) := by
      simp only [cb, List.getD_eq_getElem?_getD]
      rw [List.getElem?_dropLast, if_pos (by omega)]
    rw [e1] at h1
    rw [e2]; exact h1
  · have h1 := h.2 n (by omega)
    have e1 : (plS w t ++ [ckS w t]).getD n 0 = ckS w t := by
      simp only [List.getD_eq_getElem?_getD]
      rw [List.getElem?_append_right (by rw [pl_len, hw.len]; exact Nat.le_refl _), pl_len, hw.len]; simp
    have e2 : b.getD n (0, 0) = b.getLast hne := by
      have : n < b.length := by omega
      rw [List.getD_eq_getElem?_getD, List.getElem?_eq_getElem this, List.getLast_eq_getElem]
      simp [hl]
    rw [e1, e2] at h1
    exact h1
theorem inn_mk {t : Int} {pl : Bx} {ck : Sd} (hw : WOk n s w) (hl : pl.length = n) (hi : InN n (co (plS w t)) (cb pl)) (hc : ck.1 ≤ ckS w t ∧ ckS w t ≤ ck.2) : Inn w t (pl ++ [ck]) := by
  refine ⟨by simp [hl, hw.len], fun k hk => ?_⟩
  rw [List.length_append, hl] at hk
  have hk : k < n + 1 := hk
  by_cases h : k < n
  · have h2 : k < (plS w t).length := by rw [pl_len, hw.len]; exact h
    have := hi k h
    simp only [co, cb, List.getD_eq_getElem?_getD] at this ⊢
    rw [List.getElem?_append_left h2, List.getElem?_append_left (by omega)]
    exact this
  · have e : k = n := by omega
    subst e
    simp only [List.getD_eq_getElem?_getD]
    have e1 : (pl ++ [ck])[k]? = some ck := by rw [List.getElem?_append_right (by omega), hl]; simp
    have e2 : (plS w t ++ [ckS w t])[k]? = some (ckS w t) := by rw [List.getElem?_append_right (by rw [pl_len, hw.len]; omega), pl_len, hw.len]; simp
    rw [e1, e2]
    exact hc
theorem excl_no {r : Rdg} {t : Int} {b : Bx} (hs : SOk n s) (hw : WOk n s w) (hr : ROk n r) (ht : Truth w r) (hi : Inn w t b) : exclS s r t b = false := by
  obtain ⟨pl, ck, rfl, hl, hi, hc⟩ := inn_parts hw hi
  obtain ⟨tk, sh, h1, h2, h3, h4, h5⟩ := ht
  rw [hw.len] at h2
  have hla := hr.late
  have htk : absI (t - tk) ≤ r.late + absI (r.moment - t) := by unfold absI at *; omega
  have a1 := reach_ok hs hw htk
  have a2 := slip_ok hs hw htk
  have hsh : Nm n (co sh) r.near := ⟨hr.near.1, by unfold sqP at h3; rw [dot_dt h2 h2] at h3; exact h3⟩
  have key := span_ok hr.kind (W := plS w t) (W' := plS w tk) (by rw [pl_len, hw.len]) (by rw [pl_len, hw.len]) h2 hl hi hc a1 a2 hsh
  unfold exclS carriedS
  simp only [Bool.or_eq_false_iff, decide_eq_false_iff_not]
  omega
theorem farther_no {t1 t2 : Int} {b o : Bx} (hs : SOk n s) (hw : WOk n s w) (hb : Inn w t1 b) (ho : Inn w t2 o) : fartherS s (absI (t2 - t1)) b o = false := by
  obtain ⟨pl, ck, rfl, hl, hi, hc⟩ := inn_parts hw hb
  obtain ⟨ql, dk, rfl, hl', hi', hc'⟩ := inn_parts hw ho
  have hm := (move hs hw t2 t1).2
  have hcl := clk hs hw t2 t1
  have hp := hs.per
  unfold fartherS
  have e1 : ∀ (p : Bx) (q : Sd), (p ++ [q]).dropLast = p := fun p q => by simp
  have e2 : ∀ (p : Bx) (q : Sd), lastS (p ++ [q]) = q := fun p q => by simp [lastS]
  rw [e1, e1, e2, e2]
  have hbt : betw pl ql ≤ dt n (fun k => co (plS w t2) k - co (plS w t1) k) (fun k => co (plS w t2) k - co (plS w t1) k) := by
    rw [betw_N hl hl']
    refine dt_dom fun k hk => ?_
    have := hi k hk
    have := hi' k hk
    refine sq_mono (by unfold bgap max3; omega) ?_
    unfold bgap max3; omega
  have e3 : dt n (fun k => s.per * (co (plS w t2) k - co (plS w t1) k)) (fun k => s.per * (co (plS w t2) k - co (plS w t1) k)) = s.per * s.per * dt n (fun k => co (plS w t2) k - co (plS w t1) k) (fun k => co (plS w t2) k - co (plS w t1) k) := by
    unfold dt
    rw [← sumN_mul]
    exact sumN_congr fun k _ => by grind
  rw [e3] at hm
  have h3 := Int.mul_le_mul_of_nonneg_left hbt (sqn s.per)
  rw [if_neg (by omega)]
  simp only [decide_eq_false_iff_not]
  have hg : bgap ck dk ≤ absI (ckS w t2 - ckS w t1) := by unfold bgap max3 absI; omega
  have h4 := Int.mul_le_mul_of_nonneg_left hg (show 0 ≤ s.per by omega)
  have h5 : s.per * absI (ckS w t2 - ckS w t1) ≤ s.drift * absI (t2 - t1) := by
    unfold absI at *
    split <;> split at * <;> grind
  omega
theorem widen_in {t0 t : Int} {b : Bx} (hs : SOk n s) (hw : WOk n s w) (hb : Inn w t0 b) : Inn w t (widenS s (absI (t - t0)) b) := by
  obtain ⟨pl, ck, rfl, hl, hi, hc⟩ := inn_parts hw hb
  have a1 := reach_ok hs hw (t1 := t) (t2 := t0) (Int.le_refl _)
  have a2 := slip_ok hs hw (t1 := t) (t2 := t0) (Int.le_refl _)
  unfold widenS
  have e1 : (pl ++ [ck]).dropLast = pl := by simp
  have e2 : lastS (pl ++ [ck]) = ck := by simp [lastS]
  rw [e1, e2]
  refine inn_mk hw (by simp [hl]) (fun k hk => ?_) ?_
  · have h1 := hi k hk
    have e3 : cb (pl.map fun q => (q.1 - reachS s (absI (t - t0)), q.2 + reachS s (absI (t - t0)))) k = ((cb pl k).1 - reachS s (absI (t - t0)), (cb pl k).2 + reachS s (absI (t - t0))) := by
      have : k < pl.length := by omega
      simp [cb, List.getD_eq_getElem?_getD, this]
    rw [e3]
    have h2 : -reachS s (absI (t - t0)) ≤ co (plS w t) k - co (plS w t0) k ∧ co (plS w t) k - co (plS w t0) k ≤ reachS s (absI (t - t0)) := by
      refine abs_le_sq a1.1 (Int.le_trans ?_ a1.2)
      have key : ∀ m, k < m → (co (plS w t) k - co (plS w t0) k) * (co (plS w t) k - co (plS w t0) k) ≤ dt m (fun k => co (plS w t) k - co (plS w t0) k) (fun k => co (plS w t) k - co (plS w t0) k) := by
        intro m
        induction m with
        | zero => intro h; omega
        | succ m ih =>
          intro h
          show _ ≤ dt m _ _ + (co (plS w t) m - co (plS w t0) m) * (co (plS w t) m - co (plS w t0) m)
          have d0 := dt_nn (n := m) (x := fun k => co (plS w t) k - co (plS w t0) k)
          have d1 := sqn (co (plS w t) m - co (plS w t0) m)
          by_cases e : k = m
          · subst e; omega
          · have := ih (by omega); omega
      exact key n hk
    constructor
    · show _ - _ ≤ _; omega
    · show _ ≤ _ + _; omega
  · constructor
    · show _ - _ ≤ _; omega
    · show _ ≤ _ + _; omega
end Sp
end
section
set_option Elab.async false
set_option linter.all false
set_option maxRecDepth 100000
/-! Plain mathematics: judging and making are sound. -/
namespace Sp
open PySem L2
variable {n : Nat} {s : Stg} {w : Way} {ls : List Str}
def Hit (ls u : List Str) : Prop := ∃ x ∈ u, x ∈ ls
theorem addNew_mem {x : Str} : ∀ {f u : List Str}, x ∈ addNew u f ↔ x ∈ u ∨ x ∈ f
  | [], u => by simp [addNew]
  | y :: f, u => by
    show x ∈ addNew (if y ∈ u then u else u ++ [y]) f ↔ _
    rw [addNew_mem]
    split
    · rename_i h
      constructor
      · rintro (h1 | h1)
        · exact .inl h1
        · exact .inr (by simp [h1])
      · rintro (h1 | h1)
        · exact .inl h1
        · rcases List.mem_cons.mp h1 with e | e
          · subst e; exact .inl h
          · exact .inr e
    · simp [or_assoc]
theorem addNew_nd : ∀ {f u : List Str}, u.Nodup → (addNew u f).Nodup
  | [], u, h => h
  | y :: f, u, h => by
    show (addNew (if y ∈ u then u else u ++ [y]) f).Nodup
    apply addNew_nd
    split
    · exact h
    · rename_i hn
      rw [List.nodup_append]
      refine ⟨h, by simp, ?_⟩
      intro a ha b hb
      rw [List.mem_singleton] at hb
      subst hb
      intro e; subst e; exact hn ha
def Tru (w : Way) (ls : List Str) (rs : List Rw) : Prop := ∀ r ∈ rs, r.2.source ∉ ls → Truth w r.2
def HSnd (w : Way) (ls : List Str) (h : Hd) : Prop := ∀ u, h.used = some u → Hit ls u ∨ ∃ c ∈ h.cover, Inn w h.moment c
theorem byReading_snd {rs : List Rw} (hs : SOk n s) (hw : WOk n s w) (hr : ∀ r ∈ rs, ROk n r.2) (ht : Tru w ls rs) {t m : Int} {b : Bx} (hi : Inn w t b) {u : List Str} (h : byReadingS s t m b rs = some u) : Hit ls u := by
  induction rs with
  | nil => cases h
  | cons r rs ih =>
    unfold byReadingS at h
    split at h
    · split at h
      · rename_i he
        cases h
        refine ⟨r.2.source, by simp, ?_⟩
        refine Classical.byContradiction fun hn => ?_
        have := excl_no hs hw (hr r (by simp)) (ht r (by simp) hn) hi
        rw [this] at he; cases he
      · cases h
    · exact ih (fun r h => hr r (by simp [h])) (fun r h => ht r (by simp [h])) h
theorem byKnown_snd {held : List Hd} (hs : SOk n s) (hw : WOk n s w) (hh : ∀ h ∈ held, HSnd w ls h) {t k : Int} {b : Bx} (hi : Inn w t b) {u : List Str} (h : byKnownS s held k t b = some u) : Hit ls u := by
  unfold byKnownS at h
  split at h
  · split at h
    · rename_i x hx
      split at h
      · rename_i ha
        rcases hh x (List.mem_of_getElem? hx) u h with h1 | ⟨c, hc, h1⟩
        · exact h1
        · rw [List.all_eq_true] at ha
          have := ha c hc
          rw [farther_no hs hw h1 hi] at this; cases this
      · cases h
    · cases h
  · cases h
theorem inside_inn {t : Int} {b c : Bx} (hl : c.length = b.length) (hi : Inn w t b) (h : insideS b c = true) : Inn w t c := by
  refine ⟨by rw [hl]; exact hi.1, fun k hk => ?_⟩
  have h1 := hi.2 k (by omega)
  unfold insideS at h
  rw [List.all_eq_true] at h
  have h2 : k < b.length := by omega
  have h3 := h (b[k], c[k]) (List.mem_of_getElem? (zip_at h2 hk))
  simp only [Bool.and_eq_true, decide_eq_true_eq] at h3
  simp only [List.getD_eq_getElem?_getD, List.getElem?_eq_getElem h2, List.getElem?_eq_getElem hk, Option.getD_some] at h1 ⊢
  omega
theorem byKept_snd {keep : List Bx} (hk : ∀ c ∈ keep, c.length = w.place.length + 1) {t k : Int} {b : Bx} (hi : Inn w t b) {u : List Str} (h : byKeptS keep k b = some u) : ∃ c ∈ keep, Inn w t c := by
  unfold byKeptS at h
  split at h
  · split at h
    · rename_i x hx
      split at h
      · rename_i ha
        have hm := List.mem_of_getElem? hx
        exact ⟨x, hm, inside_inn (by rw [hk x hm, hi.1]) hi ha⟩
      · cases h
    · cases h
  · cases h
theorem cut_snd {t a p : Int} {b x y : Bx} (hi : Inn w t b) (h : cutS b a p = some (x, y)) : Inn w t x ∨ Inn w t y := by
  unfold cutS at h
  split at h
  · rename_i ha
    split at h
    · injection h with h
      injection h with h1 h2
      have hk : a.toNat < b.length := by omega
      generalize hkk : a.toNat = k at *
      have hlen : ∀ z : Sd, (b.take k ++ [z] ++ b.drop (k + 1)).length = b.length := fun z => by simp; omega
      have hget : ∀ (z : Sd) (i : Nat), (b.take k ++ [z] ++ b.drop (k + 1)).getD i (0, 0) = if i = k then z else b.getD i (0, 0) := fun z i => by
        have e : b.take k ++ [z] ++ b.drop (k + 1) = b.set k z := by
          rw [List.set_eq_take_append_cons_drop, if_pos hk, List.append_assoc]; rfl
        rw [e]
        simp only [List.getD_eq_getElem?_getD]
        by_cases ei : i = k
        · subst ei
          rw [if_pos rfl, List.getElem?_set_self hk]; rfl
        · rw [if_neg ei, List.getElem?_set_ne (Ne.symm ei)]
      have hkv := hi.2 k hk
      rcases Int.le_total ((plS w t ++ [ckS w t]).getD k 0) p with hp | hp
      · refine .inl ?_
        rw [← h1]
        refine ⟨by rw [hlen]; exact hi.1, fun i hil => ?_⟩
        rw [hlen] at hil
        rw [hget]
        by_cases ei : i = k
        · subst ei; rw [if_pos rfl]; exact ⟨hkv.1, hp⟩
        · rw [if_neg ei]; exact hi.2 i hil
      · refine .inr ?_
        rw [← h2]
        refine ⟨by rw [hlen]; exact hi.1, fun i hil => ?_⟩
        rw [hlen] at hil
        rw [hget]
        by_cases ei : i = k
        · subst ei; rw [if_pos rfl]; exact ⟨hp, hkv.2⟩
        · rw [if_neg ei]; exact hi.2 i hil
    · cases h
  · cases h
structure JOk (n : Nat) (s : Stg) (w : Way) (ls : List Str) (rs : List Rw) (held : List Hd) (keep : List Bx) : Prop where
  hs : SOk n s
  hw : WOk n s w
  hr : ∀ r ∈ rs, ROk n r.2
  ht : Tru w ls rs
  hh : ∀ h ∈ held, HSnd w ls h
  hk : ∀ c ∈ keep, c.length = w.place.length + 1
theorem byStep_snd {rs : List Rw} {held : List Hd} {keep : List Bx} (J : JOk n s w ls rs held keep) {t : Int} {st : Stp} {b : Bx} (hi : Inn w t b) {u : List Str} (h : byStepS s rs held keep t st b = some u) : Hit ls u ∨ ∃ c ∈ keep, Inn w t c := by
  cases st with
  | cut a p => cases h
  | reading m => exact .inl (byReading_snd J.hs J.hw J.hr J.ht hi h)
  | known k => exact .inl (byKnown_snd J.hs J.hw J.hh hi h)
  | kept k => exact .inr (byKept_snd J.hk hi h)
theorem jt_snd {rs : List Rw} {held : List Hd} {keep : List Bx} (J : JOk n s w ls rs held keep) {t : Int} : ∀ (tr : Tr) (u : List Str) (rows : List (Bx × Int)) (u' : List Str),
    ((∃ r ∈ rows, Inn w t r.1) ∨ Hit ls u ∨ ∃ c ∈ keep, Inn w t c) → jt s rs held keep t tr u rows = some u' → Hit ls u' ∨ ∃ c ∈ keep, Inn w t c
  | [], u, [], u', h, e => by
    unfold jt at e
    cases e
    rcases h with ⟨r, hr, _⟩ | h
    · cases hr
    · exact h
  | [], u, _ :: _, u', h, e => by unfold jt at e; cases e
  | _ :: _, _, [], u', h, e => by unfold jt at e; cases e
  | st :: tr, u, (b, deep) :: rows, u', h, e => by
    have rest : ∀ found, (∀ (hb : Inn w t b), Hit ls found ∨ ∃ c ∈ keep, Inn w t c) → jt s rs held keep t tr (addNew u found) rows = some u' → Hit ls u' ∨ ∃ c ∈ keep, Inn w t c := fun found hf e => by
      refine jt_snd J tr _ _ u' ?_ e
      rcases h with ⟨r, hr, hi⟩ | ⟨x, hx, hl⟩ | h
      · rcases List.mem_cons.mp hr with er | er
        · subst er
          rcases hf hi with ⟨x, hx, hl⟩ | h
          · exact .inr (.inl ⟨x, addNew_mem.mpr (.inr hx), hl⟩)
          · exact .inr (.inr h)
        · exact .inl ⟨r, er, hi⟩
      · exact .inr (.inl ⟨x, addNew_mem.mpr (.inl hx), hl⟩)
      · exact .inr (.inr h)
    cases st with
    | cut a p =>
      unfold jt at e
      split at e
      · cases e
      · rename_i x y hxy
        split at e
        · cases e
        · refine jt_snd J tr _ _ u' ?_ e
          rcases h with ⟨r, hr, hi⟩ | h
          · rcases List.mem_cons.mp hr with er | er
            · subst er
              rcases cut_snd hi hxy with h1 | h1
              · exact .inl ⟨(x, deep + 1), by simp, h1⟩
              · exact .inl ⟨(y, deep + 1), by simp, h1⟩
            · exact .inl ⟨r, by simp [er], hi⟩
          · exact .inr h
    | reading m =>
      unfold jt at e
      split at e
      · cases e
      · rename_i found hf
        exact rest found (fun hb => byStep_snd J hb hf) e
    | known m =>
      unfold jt at e
      split at e
      · cases e
      · rename_i found hf
        exact rest found (fun hb => byStep_snd J hb hf) e
    | kept m =>
      unfold jt at e
      split at e
      · cases e
      · rename_i found hf
        exact rest found (fun hb => byStep_snd J hb hf) e
theorem jtree_snd {rs : List Rw} {held : List Hd} {keep : List Bx} (J : JOk n s w ls rs held keep) {t : Int} {tr : Tr} {b : Bx} {u : List Str} (hi : Inn w t b) (e : jtree s rs held keep t tr b = some u) : Hit ls u ∨ ∃ c ∈ keep, Inn w t c :=
  jt_snd J tr [] [(b, 0)] u (.inl ⟨(b, 0), by simp, hi⟩) e
theorem jk_snd {q : Qn} {rs : List Rw} (hs : SOk n s) (hw : WOk n s w) (hr : ∀ r ∈ rs, ROk n r.2) (ht : Tru w ls rs) (hi : Inn w q.moment q.root) : ∀ (ks : List Kw) (held out : List Hd), (∀ k ∈ ks, KwOk n k) → (∀ h ∈ held, HSnd w ls h) → jk s q rs held ks = some out → ∀ h ∈ out, HSnd w ls h
  | [], held, out, _, hh, e => by unfold jk at e; cases e; exact hh
  | k :: ks, held, out, hk, hh, e => by
    unfold jk at e
    split at e
    · cases e
    · rename_i h hn
      refine jk_snd hs hw hr ht hi ks _ out (fun k h => hk k (by simp [h])) (fun x hx => ?_) e
      rw [List.mem_append, List.mem_singleton] at hx
      rcases hx with hx | hx
      · exact hh x hx
      · subst hx
        unfold jnext at hn
        split at hn
        · cases hn
        · rename_i u hu
          cases hn
          intro u' hu'
          cases hu'
          exact jtree_snd ⟨hs, hw, hr, ht, hh, fun c hc => by rw [((hk k (by simp)).cover c hc).len, hw.len]⟩ (widen_in hs hw hi) hu
theorem asked_sub {q : Qn} {rs : List Rw} {r : Rw} (h : r ∈ askedS q rs) : r ∈ rs := (List.mem_filter.mp h).1
/-- making a paper: the liars are found -/
theorem unmetFrom_some {path : List Str} : ∀ {us : Us} {i m : Nat}, unmetFrom path i us = some m → ∃ ns, i ≤ m ∧ us[m - i]? = some (some ns) ∧ ∀ x ∈ ns, x ∉ path
  | [], i, m, h => by cases h
  | none :: us, i, m, h => by
    obtain ⟨ns, h1, h2, h3⟩ := unmetFrom_some (us := us) (i := i + 1) h
    refine ⟨ns, by omega, ?_, h3⟩
    have e : m - i = (m - (i + 1)) + 1 := by omega
    rw [e]; exact h2
  | some ns :: us, i, m, h => by
    unfold unmetFrom at h
    split at h
    · obtain ⟨ns', h1, h2, h3⟩ := unmetFrom_some (us := us) (i := i + 1) h
      refine ⟨ns', by omega, ?_, h3⟩
      have e : m - i = (m - (i + 1)) + 1 := by omega
      rw [e]; exact h2
    · rename_i hn
      cases h
      refine ⟨ns, Nat.le_refl _, by simp, fun x hx hp => hn ?_⟩
      rw [List.any_eq_true]
      exact ⟨x, hx, by simpa using hp⟩
theorem unmet_some {path : List Str} {us : Us} {m : Nat} (h : unmet us path = some m) : ∃ ns, us[m]? = some (some ns) ∧ entry us m = ns ∧ ∀ x ∈ ns, x ∉ path := by
  obtain ⟨ns, h1, h2, h3⟩ := unmetFrom_some h
  have h2 : us[m]? = some (some ns) := h2
  refine ⟨ns, h2, ?_, h3⟩
  unfold entry
  have : (m : Int).toNat = m := by simp
  rw [this, h2]; rfl
theorem kids_inl {f : Str → Nat → List Str ⊕ List Ns} : ∀ {L : List Str} {x : Str} {i : Nat}, x ∈ L → (∀ j, ∃ p, f x j = .inl p) → ∃ p, kids f L i = .inl p
  | [], x, i, h, _ => by cases h
  | y :: L, x, i, h, hf => by
    unfold kids
    rcases List.mem_cons.mp h with e | h
    · subst e
      obtain ⟨p, hp⟩ := hf i
      rw [hp]; exact ⟨p, rfl⟩
    · split
      · exact ⟨_, rfl⟩
      · rename_i st _
        obtain ⟨p, hp⟩ := kids_inl (i := i + st.length) h hf
        rw [hp]; exact ⟨p, rfl⟩
theorem add_snd {us : Us} {hn : List Str} (hu : ∀ u, some u ∈ us → Hit ls u) (hh : ∀ x ∈ ls, x ∉ hn) : ∀ (l : Nat) (path : List Str) (i : Nat), (ls.filter fun x => !decide (x ∈ path)).length ≤ l → ∃ p, addS us hn l path i = .inl p
  | 0, path, i, hc => by
    unfold addS
    split
    · exact ⟨_, rfl⟩
    · rename_i m hm
      exfalso
      obtain ⟨ns, h1, h2, h3⟩ := unmet_some hm
      obtain ⟨x, hx, hl⟩ := hu ns (List.mem_of_getElem? h1)
      have : x ∈ ls.filter fun x => !decide (x ∈ path) := List.mem_filter.mpr ⟨hl, by simpa using h3 x hx⟩
      have h0 := List.length_eq_zero_iff.mp (Nat.le_zero.mp hc)
      rw [h0] at this; cases this
  | l + 1, path, i, hc => by
    unfold addS
    split
    · exact ⟨_, rfl⟩
    · rename_i m hm
      obtain ⟨ns, h1, h2, h3⟩ := unmet_some hm
      obtain ⟨x, hx, hl⟩ := hu ns (List.mem_of_getElem? h1)
      have hxs : x ∈ susp (entry us m) hn := by
        rw [h2]
        exact List.mem_filter.mpr ⟨hx, by simpa using hh x hl⟩
      have hlt : (ls.filter fun y => !decide (y ∈ path ++ [x])).length ≤ l := by
        have hsub : (ls.filter fun y => !decide (y ∈ path ++ [x])).length < (ls.filter fun x => !decide (x ∈ path)).length := by
          have key : ∀ L : List Str, x ∈ L → (L.filter fun y => !decide (y ∈ path ++ [x])).length < (L.filter fun x => !decide (x ∈ path)).length := by
            have le : ∀ L : List Str, (L.filter fun y => !decide (y ∈ path ++ [x])).length ≤ (L.filter fun x => !decide (x ∈ path)).length := by
              intro L
              induction L with
              | nil => simp
              | cons y L ih =>
                simp only [List.filter_cons]
                by_cases h1 : y ∈ path
                · have h2 : y ∈ path ++ [x] := by simp [h1]
                  simp only [h1, h2]; simpa using ih
                · by_cases h2 : y ∈ path ++ [x]
                  · simp only [h1, h2]; simp at ih ⊢; omega
                  · simp only [h1, h2]; simp at ih ⊢; exact ih
            intro L hL
            induction L with
            | nil => cases hL
            | cons y L ih =>
              simp only [List.filter_cons]
              by_cases e : y = x
              · subst e
                have h1 := h3 y hx
                have h2 : y ∈ path ++ [y] := by simp
                have := le L
                simp only [h1, h2]; simp at this ⊢; omega
              · have hL' : x ∈ L := by
                  rcases List.mem_cons.mp hL with e' | h
                  · exact absurd e'.symm e
                  · exact h
                have ih := ih hL'
                by_cases h1 : y ∈ path
                · have h2 : y ∈ path ++ [x] := by simp [h1]
                  simp only [h1, h2]; simpa using ih
                · have h2 : y ∉ path ++ [x] := by simp [h1, e]
                  simp only [h1, h2]; simp at ih ⊢; omega
          exact key ls hl
        omega
      obtain ⟨p, hp⟩ := kids_inl (f := fun nm s' => addS us hn l (path ++ [nm]) s') (i := i + 1) hxs fun j => add_snd hu hh l (path ++ [x]) j hlt
      rw [hp]
      exact ⟨p, rfl⟩
theorem mpaper_snd {q : Qn} {rs : List Rw} {ks : List Kw} {ts : List Tr} {hn : List Str} (hs : SOk n s) (hw : WOk n s w) (hr : ∀ r ∈ rs, ROk n r.2) (ht : Tru w ls rs) (hi : Inn w q.moment q.root) (hk : ∀ k ∈ ks, KwOk n k)
    (hh : ∀ x ∈ ls, x ∉ hn) (hl : (ls.length : Int) ≤ q.liars) : mpaper s q rs ks ts q.root hn = none := by
  unfold mpaper
  split
  · rfl
  · rename_i held hj
    have hheld := jk_snd hs hw (fun r h => hr r (asked_sub h)) (fun r h => ht r (asked_sub h)) hi ks [] held hk (by simp) hj
    have hu : ∀ u, some u ∈ usedBy s q rs held ts q.root → Hit ls u := fun u hu => by
      unfold usedBy at hu
      obtain ⟨tr, _, e⟩ := List.mem_map.mp hu
      rcases jtree_snd ⟨hs, hw, fun r h => hr r (asked_sub h), fun r h => ht r (asked_sub h), hheld, by simp⟩ hi e with h | ⟨c, hc, _⟩
      · exact h
      · cases hc
    obtain ⟨p, hp⟩ := add_snd hu hh q.liars.toNat [] 0 (by
      have : (ls.filter fun x => !decide (x ∈ ([] : List Str))).length ≤ ls.length := List.length_filter_le _ _
      omega)
    unfold makeSteps
    rw [hp]
/-- the two ends of the law -/
theorem must_snd {q : Qn} {rs : List Rw} {src : Str} {m : Option Ppr} (hs : SOk n s) (hw : WOk n s w) (hr : RsOk n rs) (ht : Tru w ls rs) (hi : Inn w q.moment q.root) (hl : q.liars = ls.length) (hm : Made s q rs [src] n m) (h : m.isSome = true) : src ∈ ls := by
  cases m with
  | none => cases h
  | some p =>
    obtain ⟨ks, ts, hk, _, e⟩ := hm
    refine Classical.byContradiction fun hn => ?_
    rw [mpaper_snd hs hw hr.all ht hi hk.all (fun x hx hx' => hn (by rw [List.mem_singleton] at hx'; rw [← hx']; exact hx)) (by omega)] at e
    cases e
theorem cannot_snd {q : Qn} {rs : List Rw} {src : Str} {m : Option Ppr} (hs : SOk n s) (hw : WOk n s w) (hr : RsOk n rs) (ht : Tru w ls rs) (hi : Inn w q.moment q.root) (hl : q.liars = ls.length) (hnd : ls.Nodup) (hm : Made s (lessS q) (othersS src rs) [] n m) (h : m.isSome = true) : src ∉ ls := by
  cases m with
  | none => cases h
  | some p =>
    obtain ⟨ks, ts, hk, _, e⟩ := hm
    intro hsrc
    have ht' : Tru w (ls.filter fun x => !decide (x = src)) (othersS src rs) := fun r hr' hn => by
      obtain ⟨h1, h2⟩ := List.mem_filter.mp hr'
      refine ht r h1 fun hx => hn (List.mem_filter.mpr ⟨hx, h2⟩)
    have hc : (ls.filter fun x => !decide (x = src)).length + 1 ≤ ls.length := by
      have key : ∀ L : List Str, src ∈ L → (L.filter fun x => !decide (x = src)).length + 1 ≤ L.length := by
        intro L hL
        induction L with
        | nil => cases hL
        | cons y L ih =>
          simp only [List.filter_cons]
          by_cases e : y = src
          · have := List.length_filter_le (fun x => !decide (x = src)) L
            simp [e]; omega
          · have hL' : src ∈ L := by
              rcases List.mem_cons.mp hL with e' | h
              · exact absurd e'.symm e
              · exact h
            have := ih hL'
            simp [e]; omega
      exact key ls hsrc
    rw [mpaper_snd (q := lessS q) (rs := othersS src rs) (hn := []) (ts := ts) (ls := ls.filter fun x => !decide (x = src)) hs hw (fun r h => hr.all r (List.mem_filter.mp h).1) ht' hi hk.all (by simp) (by show _ ≤ q.liars - 1; omega)] at e
    cases e
end Sp
end
section
set_option Elab.async false
set_option linter.all false
set_option maxRecDepth 100000
/-! Walks: judging. -/
namespace Sp
open PySem L2
theorem d_asked : Does n_asked 2 b_asked p_asked := does fun ds M P ⟨n, q, rs, h1, hr, hP⟩ => by
  subst h1
  refine ⟨rfl, fun R hR _ => ?_⟩
  have hR' := hR _ _ hP
  have := hr.len
  simp [b_asked, n_asked, dRs, -Bool.exists_bool]
  refine lc_filter rs _ (fun r => decide (q.earliest ≤ r.2.moment) && decide (r.2.moment ≤ q.latest)) dRw (by omega) (fun Ma hl r hr => ?_) ?_
  · simp [dRw, Qn.d, Rdg.d, -Bool.exists_bool]
    intro C hC
    split <;> simp_all
  · exact hR'
theorem d_by_reading : Does n_by_reading 5 b_by_reading p_by_reading := does fun ds M P ⟨n, s, rs, m, t, b, h1, hs, hr, ht, hb, hP⟩ => by
  subst h1
  refine ⟨rfl, fun R hR _ => ?_⟩
  have hR' := hR _ _ hP
  simp [b_by_reading, n_by_reading, dRs, -Bool.exists_bool]
  refine for_map rs _ (fun i ρ' M' => M' = M ∧ byReadingS s t m b rs = byReadingS s t m b (rs.drop i) ∧ ∃ x y, ρ' = [some s.d, some (.lst (rs.map dRw)), some (.int m), some (.int t), some (dB b), x, y]) ?_ ?_ ?_
  · exact ⟨rfl, rfl, _, _, rfl⟩
  · rintro i r ρ' M' hi ⟨rfl, he, x, y, rfl⟩
    have hd : rs.drop i = r :: rs.drop (i + 1) := by
      obtain ⟨h, e⟩ := List.getElem?_eq_some_iff.mp hi
      rw [List.drop_eq_getElem_cons h, e]
    have hu : byReadingS s t m b (r :: rs.drop (i + 1)) = if r.1 = m then (if exclS s r.2 t b = true then some [r.2.source] else none) else byReadingS s t m b (rs.drop (i + 1)) := rfl
    rw [hd, hu] at he
    have hro := hr.all r (List.mem_of_getElem? hi)
    simp [dRw, -Bool.exists_bool]
    by_cases c1 : r.1 = m
    · rw [if_pos c1] at he
      simp [c1, e_excludes, -Bool.exists_bool]
      refine ⟨n, s, r.2, t, b, rfl, hs, hro, ht, hb, ?_⟩
      rw [he] at hR'
      by_cases c2 : exclS s r.2 t b = true
      · rw [if_pos c2] at hR'
        simp [c2, Rdg.d]; simpa [dU, dN] using hR'
      · rw [if_neg c2] at hR'
        simp [c2]; exact hR'
    · rw [if_neg c1] at he
      simp [c1, -Bool.exists_bool]
      exact he
  · rintro ρ' M' ⟨rfl, he, x, y, rfl⟩
    rw [List.drop_length] at he
    rw [he] at hR'
    simp
    exact hR'
theorem d_by_known : Does n_by_known 5 b_by_known p_by_known := does fun ds M P ⟨n, s, hd, hs', k, t, b, h1, hl, hs, hh, ht, hb, hP⟩ => by
  subst h1
  refine ⟨rfl, fun R hR _ => ?_⟩
  have hR' := hR _ _ hP
  have hit : itemsOf M hd = some (hs'.map Hd.d) := by cases hd <;> first | exact hl | cases hl
  have hln : ∀ Q : D → Mem → Prop, Q (.int hs'.length) M → biD .len [hd] M Q := fun Q hQ => by
    cases hd <;> first | exact ⟨_, hl, by simpa using hQ⟩ | cases hl
  simp [b_by_known, n_by_known, -Bool.exists_bool]
  by_cases c0 : 0 ≤ k
  · simp [c0, -Bool.exists_bool]
    refine hln _ ?_
    simp [-Bool.exists_bool]
    by_cases c1 : k < hs'.length
    · have hk : k.toNat < hs'.length := by omega
      have ho := hh.all hs'[k.toNat] (List.getElem_mem hk)
      have e1 : atI (hs'.map Hd.d) k = some (Hd.d hs'[k.toNat]) := atI_nat (k := k.toNat) (by omega) (by rw [List.getElem?_map, List.getElem?_eq_getElem hk]; rfl)
      unfold byKnownS at hR'
      rw [if_pos ⟨c0, c1⟩, List.getElem?_eq_getElem hk] at hR'
      simp only [] at hR'
      generalize hs'[k.toNat] = h at *
      have := ho.moment
      have h2 : 0 ≤ absI (t - h.moment) ∧ absI (t - h.moment) ≤ 10000 := by unfold absI; omega
      simp [c1, hit, e1, Hd.d, dBs, -Bool.exists_bool]
      refine lc_map h.cover _ (fun c => .bl (fartherS s (absI (t - h.moment)) c b)) (by have := ho.len; omega) (fun Ma hle c hc => ?_) ?_
      · simp [e_farther]
        intro E hE
        exact ⟨n, s, _, c, b, rfl, hs, h2.1, h2.2, ho.cover c hc, hb, hE⟩
      · have e : (h.cover.map fun c => D.bl (fartherS s (absI (t - h.moment)) c b)) = (h.cover.map fun c => fartherS s (absI (t - h.moment)) c b).map D.bl := by rw [List.map_map]; rfl
        rw [e]
        refine bi_all ?_
        rw [List.all_map]
        simp only [t_bl]
        refine ⟨_, rfl, ?_⟩
        by_cases c2 : (h.cover.all fun c => fartherS s (absI (t - h.moment)) c b) = true
        · rw [if_pos c2] at hR'
          have c2' : (h.cover.all (id ∘ fun c => fartherS s (absI (t - h.moment)) c b)) = true := c2
          rw [if_pos c2']
          exact hR'
        · rw [if_neg c2] at hR'
          have c2' : ¬ (h.cover.all (id ∘ fun c => fartherS s (absI (t - h.moment)) c b)) = true := c2
          rw [if_neg c2']
          exact hR'
    · simp [c1]
      unfold byKnownS at hR'
      rw [if_neg (fun h => c1 h.2)] at hR'
      exact hR'
  · simp [c0]
    unfold byKnownS at hR'
    rw [if_neg (fun h => c0 h.1)] at hR'
    exact hR'
theorem d_by_kept : Does n_by_kept 3 b_by_kept p_by_kept := does fun ds M P ⟨n, kp, k, b, h1, hn, hb, hP⟩ => by
  subst h1
  refine ⟨rfl, fun R hR _ => ?_⟩
  have hR' := hR _ _ hP
  unfold byKeptS at hR'
  by_cases c0 : 0 ≤ k
  · by_cases c1 : k < kp.length
    · have hk : k.toNat < kp.length := by omega
      have e1 : atI (kp.map dB) k = some (dB kp[k.toNat]) := atI_nat (k := k.toNat) (by omega) (by rw [List.getElem?_map, List.getElem?_eq_getElem hk]; rfl)
      rw [if_pos ⟨c0, c1⟩, List.getElem?_eq_getElem hk] at hR'
      simp only [] at hR'
      generalize kp[k.toNat] = c at *
      simp [b_by_kept, n_by_kept, c0, c1, dBs, e1, e_inside, -Bool.exists_bool]
      refine ⟨b, c, rfl, by rw [hb.len]; omega, ?_⟩
      by_cases c2 : insideS b c = true
      · rw [if_pos c2] at hR'
        simp [c2]; exact hR'
      · rw [if_neg c2] at hR'
        simp [c2]; exact hR'
    · rw [if_neg (fun h => c1 h.2)] at hR'
      simp [b_by_kept, n_by_kept, c0, c1, dBs, -Bool.exists_bool]; exact hR'
  · rw [if_neg (fun h => c0 h.1)] at hR'
    simp [b_by_kept, n_by_kept, c0, dBs, -Bool.exists_bool]; exact hR'
theorem d_by_step : Does n_by_step 7 b_by_step p_by_step := does fun ds M P ⟨n, s, rs, hd, hs', kp, t, st, b, h1, hl, hc, hs, hr, hh, ht, hb, hP⟩ => by
  subst h1
  refine ⟨rfl, fun R hR _ => ?_⟩
  have hR' := hR _ _ hP
  have n3 : n ≤ 3 := by have := hs.n23; omega
  cases st with
  | cut a p => exact hc.elim
  | reading m =>
    simp [b_by_step, n_by_step, Stp.d, e_by_reading, -Bool.exists_bool]
    exact ⟨n, s, rs, m, t, b, rfl, hs, hr, ht, hb, hR'⟩
  | known m =>
    simp [b_by_step, n_by_step, Stp.d, e_by_known, -Bool.exists_bool]
    exact ⟨n, s, hd, hs', m, t, b, rfl, hl, hs, hh, ht, hb, hR'⟩
  | kept m =>
    simp [b_by_step, n_by_step, Stp.d, e_by_kept, -Bool.exists_bool]
    exact ⟨n, kp, m, b, rfl, n3, hb, hR'⟩
theorem d_root_at : Does n_root_at 3 b_root_at p_root_at := does fun ds M P ⟨n, s, q, t, h1, hs, hq, ht, hP⟩ => by
  subst h1
  refine ⟨rfl, fun R hR _ => ?_⟩
  have := hq.moment
  have h2 : 0 ≤ absI (t - q.moment) ∧ absI (t - q.moment) ≤ 10000 := by unfold absI; omega
  simp [b_root_at, n_root_at, Qn.d, e_widened, -Bool.exists_bool]
  exact ⟨n, s, _, q.root, rfl, hs, h2.1, h2.2, hq.len, hR _ _ hP⟩
end Sp
end
section
set_option Elab.async false
set_option linter.all false
set_option maxRecDepth 100000
/-! Walks: the walk through a tree, known things, papers' lists. -/
namespace Sp
open PySem L2
theorem le_put {M M' : Mem} {a : Addr} {d : D} (h : M a = none) (hl : M.le M') : M.le (M'.set a d) := fun b e hb => by
  by_cases q : b = a
  · subst q; rw [h] at hb; cases hb
  · rw [Mem.set_ne q]; exact hl _ _ hb
theorem lst_le {M M' : Mem} {d : D} {xs : List D} (h : lstOf M d = some xs) (hl : M.le M') : lstOf M' d = some xs := by
  cases d with
  | adr a =>
    simp only [lstOf] at h ⊢
    cases e : M a with
    | none => rw [e] at h; cases h
    | some x => rw [e] at h; rw [hl _ _ e]; exact h
  | _ => exact h
def rowD (r : Bx × Int) : D := .tup [dB r.1, .int r.2]
theorem UOk.len {u : List Str} (h : UOk u) : u.length ≤ 4 := List.Nodup.length_le_of_subset (l₂ := names5) h.nd (fun x hx => h.sub x hx)
theorem UOk.add {u f : List Str} (h : UOk u) (hf : ∀ x ∈ f, x ∈ names5) : UOk (addNew u f) := ⟨addNew_nd h.nd, fun x hx => by
  rcases addNew_mem.mp hx with h1 | h1
  · exact h.sub x h1
  · exact hf x h1⟩
theorem byStep_in {n : Nat} {s : Stg} {rs : List Rw} {hs : List Hd} {kp : List Bx} {t : Int} {st : Stp} {b : Bx} {u : List Str} (hr : RsOk n rs) (hh : HsOk n hs) (h : byStepS s rs hs kp t st b = some u) : ∀ x ∈ u, x ∈ names5 := by
  cases st with
  | cut a p => cases h
  | reading m =>
    have : ∀ rs : List Rw, (∀ r ∈ rs, ROk n r.2) → byReadingS s t m b rs = some u → ∀ x ∈ u, x ∈ names5 := by
      intro rs
      induction rs with
      | nil => intro _ h; cases h
      | cons r rs ih =>
        intro hr h
        unfold byReadingS at h
        split at h
        · split at h
          · cases h
            intro x hx
            rw [List.mem_singleton] at hx
            subst hx
            exact (hr r (by simp)).source
          · cases h
        · exact ih (fun r h => hr r (by simp [h])) h
    exact this rs hr.all h
  | known k =>
    have h : byKnownS s hs k t b = some u := h
    unfold byKnownS at h
    split at h
    · split at h
      · rename_i y hy
        split at h
        · exact ((hh.all y (List.mem_of_getElem? hy)).used u h).sub
        · cases h
      · cases h
    · cases h
  | kept k =>
    have h : byKeptS kp k b = some u := h
    unfold byKeptS at h
    split at h
    · split at h
      · split at h
        · cases h; simp
        · cases h
      · cases h
    · cases h
theorem byStep_len {n : Nat} {s : Stg} {rs : List Rw} {hs : List Hd} {kp : List Bx} {t : Int} {st : Stp} {b : Bx} {u : List Str} (hh : HsOk n hs) (h : byStepS s rs hs kp t st b = some u) : u.length ≤ 100 := by
  cases st with
  | cut a p => cases h
  | reading m =>
    have : ∀ rs : List Rw, byReadingS s t m b rs = some u → u.length ≤ 100 := by
      intro rs
      induction rs with
      | nil => intro h; cases h
      | cons r rs ih =>
        intro h
        unfold byReadingS at h
        split at h
        · split at h
          · cases h; simp
          · cases h
        · exact ih h
    exact this rs h
  | known k =>
    have h : byKnownS s hs k t b = some u := h
    unfold byKnownS at h
    split at h
    · split at h
      · rename_i y hy
        split at h
        · have := ((hh.all y (List.mem_of_getElem? hy)).used u h).len; omega
        · cases h
      · cases h
    · cases h
  | kept k =>
    have h : byKeptS kp k b = some u := h
    unfold byKeptS at h
    split at h
    · split at h
      · split at h
        · cases h; simp
        · cases h
      · cases h
    · cases h
theorem cut_ok {n : Nat} {b x y : Bx} {a p : Int} (hb : BOk n b) (h : cutS b a p = some (x, y)) : BOk n x ∧ BOk n y := by
  unfold cutS at h
  split at h
  · rename_i ha
    split at h
    · rename_i hp
      injection h with h
      injection h with h1 h2
      have hk : a.toNat < b.length := by omega
      have hg : b.getD a.toNat (0, 0) ∈ b := by
        rw [List.getD_eq_getElem?_getD, List.getElem?_eq_getElem hk]
        exact List.getElem_mem hk
      have hg := hb.bd _ hg
      generalize b.getD a.toNat (0, 0) = g at *
      have key : ∀ z : Sd, -1000000 ≤ z.1 ∧ z.1 ≤ z.2 ∧ z.2 ≤ 1000000 → BOk n (b.take a.toNat ++ [z] ++ b.drop (a.toNat + 1)) := fun z hz => by
        refine ⟨by have := hb.len; simp; omega, fun q hq => ?_⟩
        rw [List.mem_append, List.mem_append, List.mem_singleton] at hq
        rcases hq with (hq | hq) | hq
        · exact hb.bd q (List.mem_of_mem_take hq)
        · subst hq; exact hz
        · exact hb.bd q (List.mem_of_mem_drop hq)
      rw [← h1, ← h2]
      exact ⟨key _ ⟨by omega, by simp only []; omega, by simp only []; omega⟩, key _ ⟨by simp only []; omega, by simp only []; omega, by omega⟩⟩
    · cases h
  · cases h
def rowsD (rows : List (Bx × Int)) : List D := rows.reverse.map rowD
theorem rowsD_cons {r : Bx × Int} {rows : List (Bx × Int)} : rowsD (r :: rows) = rowsD rows ++ [rowD r] := by simp [rowsD]
theorem rowsD_len {rows : List (Bx × Int)} : (rowsD rows).length = rows.length := by simp [rowsD]
theorem last_app {L : List D} {x : D} : (L ++ [x])[(L ++ [x]).length - 1]? = some x := by simp
/-- the loop that takes new names up -/
theorem add_loop {M0 : Mem} {u f : List Str} {a : Addr} {ρ : Rho} {K : Kn} (h7 : M0 a = some (.lst (u.map D.str))) (hρ : ρ[7]? = some (some (.adr a))) (hρl : ρ.length = 15) (hf : f.length ≤ 100) (hul : u.length + f.length ≤ 1000)
    (hk : ∀ x, K.nx (ρ.set 14 x) (M0.set a (.lst ((addNew u f).map D.str)))) (hk0 : f = [] → K.nx ρ M0) :
    forD (.one 14) (.cons (.iff (.cmp .notin (.var 14) (.var 7)) (.cons (.app (.var 7) (.var 14)) .nil) .nil) .nil) K ρ (f.map D.str) M0 := by
  refine for_map f _ (fun i ρ' M' => M' = M0.set a (.lst ((addNew u (f.take i)).map D.str)) ∧ (i = 0 → ρ' = ρ) ∧ (0 < i → ∃ x, ρ' = ρ.set 14 x)) ?_ ?_ ?_
  · refine ⟨?_, fun _ => rfl, fun h => by omega⟩
    funext b
    by_cases q : b = a
    · subst q; rw [h7]; simp [Mem.set, addNew]
    · simp [Mem.set, q]
  · rintro i x ρ' M' hi ⟨rfl, e0, e1⟩
    have hx : ∃ z, ρ' = ρ.set 14 z ∨ ρ' = ρ := by
      rcases Nat.eq_zero_or_pos i with h | h
      · exact ⟨none, .inr (e0 h)⟩
      · obtain ⟨z, hz⟩ := e1 h; exact ⟨z, .inl hz⟩
    have hs14 : ρ'.set 14 (some (.str x)) = ρ.set 14 (some (.str x)) := by
      obtain ⟨z, rfl | rfl⟩ := hx
      · rw [List.set_set]
      · rfl
    have h14 : (ρ.set 14 (some (.str x)))[14]? = some (some (.str x)) := List.getElem?_set_self (by omega)
    have h7' : (ρ.set 14 (some (.str x)))[7]? = some (some (.adr a)) := by rw [List.getElem?_set_ne (by decide)]; exact hρ
    have hm : (M0.set a (.lst ((addNew u (f.take i)).map D.str))) a = some (.lst ((addNew u (f.take i)).map D.str)) := Mem.set_same
    have ht : f.take (i + 1) = f.take i ++ [x] := by rw [List.take_add_one, hi]; rfl
    have ha : addNew u (f.take (i + 1)) = if x ∈ addNew u (f.take i) then addNew u (f.take i) else addNew u (f.take i) ++ [x] := by
      rw [ht]; unfold addNew; rw [List.foldl_append]; rfl
    have hlen : ∀ (g v : List Str), (addNew v g).length ≤ v.length + g.length := by
      intro g
      induction g with
      | nil => intro v; exact Nat.le_refl _
      | cons y g ih =>
        intro v
        show (addNew (if y ∈ v then v else v ++ [y]) g).length ≤ _
        refine Nat.le_trans (ih _) ?_
        split <;> simp <;> omega
    have hl2 := hlen (f.take i) u
    have hl3 : (f.take i).length ≤ f.length := by rw [List.length_take]; omega
    show wpSs _ (ρ'.set 14 (some (.str x))) _ _
    rw [hs14]
    simp [h14, h7', -Bool.exists_bool]
    refine c_notin (xs := addNew u (f.take i)) (i_adr hm) (fun ns h => by cases h) ?_
    simp [-Bool.exists_bool]
    by_cases hc : x ∈ addNew u (f.take i)
    · rw [if_pos hc] at ha
      simp [hc, ha]
      exact ⟨_, rfl⟩
    · rw [if_neg hc] at ha
      simp [hc, ha, hm, h14, h7']
      exact ⟨by omega, Mem.set_set, _, rfl⟩
  · rintro ρ' M' ⟨rfl, e0, e1⟩
    rw [List.take_length]
    rcases Nat.eq_zero_or_pos f.length with h | h
    · have hf0 : f = [] := List.length_eq_zero_iff.mp h
      subst hf0
      have : M0.set a (.lst ((addNew u []).map D.str)) = M0 := by
        funext b
        by_cases q : b = a
        · subst q; rw [h7]; simp [Mem.set, addNew]
        · simp [Mem.set, q]
      rw [this, e0 h]
      exact hk0 rfl
    · obtain ⟨x, rfl⟩ := e1 h
      exact hk x
def jtI (n : Nat) (s : Stg) (rs : List Rw) (hd : D) (hs' : List Hd) (kp : List Bx) (t : Int) (tr : Tr) (b : Bx) (a a' : Addr) (M : Mem) (i : Nat) (ρ' : Rho) (M' : Mem) : Prop := ∃ (u : List Str) (rows : List (Bx × Int)) (x9 x10 x11 x12 x13 x14 : Option D), ρ' = [some s.d, some (dRs rs), some hd, some (dBs kp), some (D.int t), some (D.tup (List.map Stp.d tr)), some (dB b), some (D.adr a), some (D.adr a'), x9, x10, x11, x12, x13, x14] ∧
    M' a = some (.lst (u.map D.str)) ∧ M' a' = some (.lst (rowsD rows)) ∧ M.le M' ∧ jt s rs hs' kp t (tr.drop i) u rows = jtree s rs hs' kp t tr b ∧ UOk u ∧ rows.length ≤ i + 1 ∧ ∀ r ∈ rows, BOk (n + 1) r.1
theorem d_judge_tree : Does n_judge_tree 7 b_judge_tree p_judge_tree := does fun ds M P ⟨n, s, rs, hd, hs', kp, t, tr, b, h1, hl, hs, hr, hh, ht, hb, htl, hP⟩ => by
  subst h1
  refine ⟨rfl, fun R _ hR => ?_⟩
  simp [b_judge_tree, n_judge_tree, dT, -Bool.exists_bool]
  intro a ha a' ha'
  have hne : a' ≠ a := fun e => by rw [e, Mem.set_same] at ha'; cases ha'
  rw [Mem.set_ne hne] at ha'
  refine for_map tr _ (jtI n s rs hd hs' kp t tr b a a' M) ?_ ?_ ?_
  · refine ⟨[], [(b, 0)], _, _, _, _, _, _, rfl, ?_, ?_, le_put ha' (le_put ha Mem.le_refl), rfl, ⟨by simp, by simp⟩, by simp, by simpa using hb⟩
    · rw [Mem.set_ne (Ne.symm hne), Mem.set_same]; rfl
    · rw [Mem.set_same]; rfl
  · rintro i st ρ' M' hi ⟨u, rows, x9, x10, x11, x12, x13, x14, rfl, h7, h8, hle, hj, hu, hrl, hro⟩
    have hil : i < tr.length := by
      obtain ⟨h, e⟩ := List.getElem?_eq_some_iff.mp hi; exact h
    have hd' : tr.drop i = st :: tr.drop (i + 1) := by
      obtain ⟨h, e⟩ := List.getElem?_eq_some_iff.mp hi
      rw [List.drop_eq_getElem_cons h, e]
    rw [hd'] at hj
    simp [t_adr h8, -Bool.exists_bool]
    cases rows with
    | nil =>
      have : jt s rs hs' kp t (st :: tr.drop (i + 1)) u [] = none := by cases st <;> rfl
      rw [this] at hj
      simp [rowsD]
      refine hR _ _ M hle ?_
      rw [← hj] at hP; exact hP
    | cons r rest =>
      obtain ⟨part, deep⟩ := r
      rw [rowsD_cons] at h8
      have hpo : BOk (n + 1) part := hro (part, deep) (by simp)
      rw [rowsD_cons]
      refine ⟨true, by simp, false, rfl, ?_⟩
      rw [if_neg (by decide)]
      refine ⟨_, h8, _, last_app, ?_⟩
      rw [List.dropLast_concat]
      simp [rowD, -Bool.exists_bool]
      have h7' : (M'.set a' (.lst (rowsD rest))) a = some (.lst (u.map D.str)) := by rw [Mem.set_ne (Ne.symm hne)]; exact h7
      have hle' : M.le (M'.set a' (.lst (rowsD rest))) := le_put ha' hle
      have h8' : (M'.set a' (.lst (rowsD rest))) a' = some (.lst (rowsD rest)) := Mem.set_same
      generalize hMM : M'.set a' (.lst (rowsD rest)) = MM at *
      cases st with
      | cut ax pl =>
        simp [Stp.d, e_cut, -Bool.exists_bool]
        refine ⟨part, ax, pl, rfl, by rw [hpo.len]; have := hs.n23; omega, ?_⟩
        have hjj : jt s rs hs' kp t (Stp.cut ax pl :: tr.drop (i + 1)) u ((part, deep) :: rest) = match cutS part ax pl with | none => none | some (x, y) => if 240 ≤ deep then none else jt s rs hs' kp t (tr.drop (i + 1)) u ((x, deep + 1) :: (y, deep + 1) :: rest) := rfl
        rw [hjj] at hj
        cases hc : cutS part ax pl with
        | none =>
          rw [hc] at hj
          simp [dCut]
          refine hR _ _ M hle' ?_
          rw [← hj] at hP; exact hP
        | some xy =>
          obtain ⟨x, y⟩ := xy
          rw [hc] at hj
          simp only [] at hj
          simp [dCut, gval, -Bool.exists_bool]
          by_cases c2 : 240 ≤ deep
          · rw [if_pos c2] at hj
            simp [c2]
            refine hR _ _ M hle' ?_
            rw [← hj] at hP; exact hP
          · rw [if_neg c2] at hj
            have hxy := cut_ok hpo hc
            have hrl' : rest.length ≤ 1001 := by simp at hrl; omega
            simp [c2, h8']
            refine ⟨by rw [rowsD_len]; omega, ?_⟩
            have h9 : (MM.set a' (.lst (rowsD rest ++ [D.tup [dB y, D.int (deep + 1)]]))) a' = some (.lst (rowsD rest ++ [D.tup [dB y, D.int (deep + 1)]])) := Mem.set_same
            simp [h9, Mem.set_set]
            refine ⟨by rw [rowsD_len]; omega, u, (x, deep + 1) :: (y, deep + 1) :: rest, _, _, _, _, _, _, rfl, ?_, ?_, le_put ha' hle', hj, hu, by simp at hrl ⊢; omega, ?_⟩
            · rw [Mem.set_ne (Ne.symm hne)]; exact h7'
            · rw [Mem.set_same, rowsD_cons, rowsD_cons]; simp [rowD]
            · intro r hr
              rcases List.mem_cons.mp hr with e | hr
              · cases e; exact hxy.1
              · rcases List.mem_cons.mp hr with e | hr
                · cases e; exact hxy.2
                · exact hro r (by simp [hr])
      | reading m =>
        have hjj : jt s rs hs' kp t (Stp.reading m :: tr.drop (i + 1)) u ((part, deep) :: rest) = match byStepS s rs hs' kp t (.reading m) part with | none => none | some found => jt s rs hs' kp t (tr.drop (i + 1)) (addNew u found) rest := rfl
        rw [hjj] at hj
        simp [Stp.d, e_by_step, -Bool.exists_bool]
        refine ⟨n, s, rs, hd, hs', kp, t, .reading m, part, rfl, lst_le hl hle', trivial, hs, hr, hh, ht, hpo, ?_⟩
        cases hbs : byStepS s rs hs' kp t (.reading m) part with
        | none =>
          rw [hbs] at hj
          simp [dU]
          refine hR _ _ M hle' ?_
          rw [← hj] at hP; exact hP
        | some found =>
          rw [hbs] at hj
          simp only [] at hj
          have hin := byStep_in hr hh hbs
          have hu2 := hu.add hin
          have hfl : found.length ≤ 100 := byStep_len hh hbs
          have hul := hu.len
          have fin : ∀ x9 x10 x11 x12 x13 x14, jtI n s rs hd hs' kp t tr b a a' M (i + 1) [some s.d, some (dRs rs), some hd, some (dBs kp), some (D.int t), some (D.tup (List.map Stp.d tr)), some (dB b), some (D.adr a), some (D.adr a'), x9, x10, x11, x12, x13, x14] (MM.set a (.lst ((addNew u found).map D.str))) := fun x9 x10 x11 x12 x13 x14 =>
            ⟨addNew u found, rest, x9, x10, x11, x12, x13, x14, rfl, Mem.set_same, by rw [Mem.set_ne hne]; exact h8', le_put ha hle', hj, hu2, by simp at hrl ⊢; omega, fun r hr => hro r (by simp [hr])⟩
          have em : found = [] → MM.set a (.lst ((addNew u found).map D.str)) = MM := fun e => by
            subst e
            funext c
            by_cases q : c = a
            · subst q; rw [h7']; simp [Mem.set, addNew]
            · simp [Mem.set, q]
          simp [dU, dN]
          refine add_loop h7' rfl rfl hfl (by omega) (fun x => fin _ _ _ _ _ _) (fun e => ?_)
          have := fin (some (D.tup [D.str (Str.ofString "reading"), D.int m])) (some (dB part)) (some (D.int deep)) x12 (some (D.tup (found.map D.str))) x14
          rw [em e] at this
          exact this
      | known m =>
        have hjj : jt s rs hs' kp t (Stp.known m :: tr.drop (i + 1)) u ((part, deep) :: rest) = match byStepS s rs hs' kp t (.known m) part with | none => none | some found => jt s rs hs' kp t (tr.drop (i + 1)) (addNew u found) rest := rfl
        rw [hjj] at hj
        simp [Stp.d, e_by_step, -Bool.exists_bool]
        refine ⟨n, s, rs, hd, hs', kp, t, .known m, part, rfl, lst_le hl hle', trivial, hs, hr, hh, ht, hpo, ?_⟩
        cases hbs : byStepS s rs hs' kp t (.known m) part with
        | none =>
          rw [hbs] at hj
          simp [dU]
          refine hR _ _ M hle' ?_
          rw [← hj] at hP; exact hP
        | some found =>
          rw [hbs] at hj
          simp only [] at hj
          have hin := byStep_in hr hh hbs
          have hu2 := hu.add hin
          have hfl : found.length ≤ 100 := byStep_len hh hbs
          have hul := hu.len
          have fin : ∀ x9 x10 x11 x12 x13 x14, jtI n s rs hd hs' kp t tr b a a' M (i + 1) [some s.d, some (dRs rs), some hd, some (dBs kp), some (D.int t), some (D.tup (List.map Stp.d tr)), some (dB b), some (D.adr a), some (D.adr a'), x9, x10, x11, x12, x13, x14] (MM.set a (.lst ((addNew u found).map D.str))) := fun x9 x10 x11 x12 x13 x14 =>
            ⟨addNew u found, rest, x9, x10, x11, x12, x13, x14, rfl, Mem.set_same, by rw [Mem.set_ne hne]; exact h8', le_put ha hle', hj, hu2, by simp at hrl ⊢; omega, fun r hr => hro r (by simp [hr])⟩
          have em : found = [] → MM.set a (.lst ((addNew u found).map D.str)) = MM := fun e => by
            subst e
            funext c
            by_cases q : c = a
            · subst q; rw [h7']; simp [Mem.set, addNew]
            · simp [Mem.set, q]
          simp [dU, dN]
          refine add_loop h7' rfl rfl hfl (by omega) (fun x => fin _ _ _ _ _ _) (fun e => ?_)
          have := fin (some (D.tup [D.str (Str.ofString "known"), D.int m])) (some (dB part)) (some (D.int deep)) x12 (some (D.tup (found.map D.str))) x14
          rw [em e] at this
          exact this
      | kept m =>
        have hjj : jt s rs hs' kp t (Stp.kept m :: tr.drop (i + 1)) u ((part, deep) :: rest) = match byStepS s rs hs' kp t (.kept m) part with | none => none | some found => jt s rs hs' kp t (tr.drop (i + 1)) (addNew u found) rest := rfl
        rw [hjj] at hj
        simp [Stp.d, e_by_step, -Bool.exists_bool]
        refine ⟨n, s, rs, hd, hs', kp, t, .kept m, part, rfl, lst_le hl hle', trivial, hs, hr, hh, ht, hpo, ?_⟩
        cases hbs : byStepS s rs hs' kp t (.kept m) part with
        | none =>
          rw [hbs] at hj
          simp [dU]
          refine hR _ _ M hle' ?_
          rw [← hj] at hP; exact hP
        | some found =>
          rw [hbs] at hj
          simp only [] at hj
          have hin := byStep_in hr hh hbs
          have hu2 := hu.add hin
          have hfl : found.length ≤ 100 := byStep_len hh hbs
          have hul := hu.len
          have fin : ∀ x9 x10 x11 x12 x13 x14, jtI n s rs hd hs' kp t tr b a a' M (i + 1) [some s.d, some (dRs rs), some hd, some (dBs kp), some (D.int t), some (D.tup (List.map Stp.d tr)), some (dB b), some (D.adr a), some (D.adr a'), x9, x10, x11, x12, x13, x14] (MM.set a (.lst ((addNew u found).map D.str))) := fun x9 x10 x11 x12 x13 x14 =>
            ⟨addNew u found, rest, x9, x10, x11, x12, x13, x14, rfl, Mem.set_same, by rw [Mem.set_ne hne]; exact h8', le_put ha hle', hj, hu2, by simp at hrl ⊢; omega, fun r hr => hro r (by simp [hr])⟩
          have em : found = [] → MM.set a (.lst ((addNew u found).map D.str)) = MM := fun e => by
            subst e
            funext c
            by_cases q : c = a
            · subst q; rw [h7']; simp [Mem.set, addNew]
            · simp [Mem.set, q]
          simp [dU, dN]
          refine add_loop h7' rfl rfl hfl (by omega) (fun x => fin _ _ _ _ _ _) (fun e => ?_)
          have := fin (some (D.tup [D.str (Str.ofString "kept"), D.int m])) (some (dB part)) (some (D.int deep)) x12 (some (D.tup (found.map D.str))) x14
          rw [em e] at this
          exact this
  · rintro ρ' M' ⟨u, rows, x9, x10, x11, x12, x13, x14, rfl, h7, h8, hle, hj, hu, hrl, hro⟩
    rw [List.drop_length] at hj
    cases rows with
    | nil =>
      have : jt s rs hs' kp t [] u [] = some u := rfl
      rw [this] at hj
      simp [t_adr h8, rowsD]
      rw [bi_tupA h7]
      refine hR _ _ M hle ?_
      rw [← hj] at hP; exact hP
    | cons r rest =>
      have : jt s rs hs' kp t [] u (r :: rest) = none := rfl
      rw [this] at hj
      simp [t_adr h8, rowsD]
      refine hR _ _ M hle ?_
      rw [← hj] at hP; exact hP
end Sp
end
section
set_option Elab.async false
set_option linter.all false
set_option maxRecDepth 100000
/-! Walks: known things, what trees use. -/
namespace Sp
open PySem L2
variable {n : Nat} {s : Stg}
theorem jt_ok {rs : List Rw} {hs : List Hd} {kp : List Bx} {t : Int} (hr : RsOk n rs) (hh : HsOk n hs) : ∀ (tr : Tr) (u : List Str) (rows : List (Bx × Int)) (u' : List Str), UOk u → jt s rs hs kp t tr u rows = some u' → UOk u'
  | [], u, [], u', h, e => by unfold jt at e; cases e; exact h
  | [], u, _ :: _, u', h, e => by unfold jt at e; cases e
  | _ :: _, _, [], u', h, e => by unfold jt at e; cases e
  | st :: tr, u, (b, deep) :: rows, u', h, e => by
    cases st with
    | cut a p =>
      unfold jt at e
      split at e
      · cases e
      · split at e
        · cases e
        · exact jt_ok hr hh tr _ _ u' h e
    | reading m =>
      unfold jt at e
      split at e
      · cases e
      · rename_i found hf
        exact jt_ok hr hh tr _ _ u' (h.add (byStep_in hr hh hf)) e
    | known m =>
      unfold jt at e
      split at e
      · cases e
      · rename_i found hf
        exact jt_ok hr hh tr _ _ u' (h.add (byStep_in hr hh hf)) e
    | kept m =>
      unfold jt at e
      split at e
      · cases e
      · rename_i found hf
        exact jt_ok hr hh tr _ _ u' (h.add (byStep_in hr hh hf)) e
theorem jtree_ok {rs : List Rw} {hs : List Hd} {kp : List Bx} {t : Int} {tr : Tr} {b : Bx} {u : List Str} (hr : RsOk n rs) (hh : HsOk n hs) (e : jtree s rs hs kp t tr b = some u) : UOk u :=
  jt_ok hr hh tr [] _ u ⟨by simp, by simp⟩ e
theorem BdB.sub {k l : Int} {b : Bx} (h : BdB k b) (hk : k ≤ l) : BdB l b := fun q hq => by have := h q hq; omega
theorem root_ok {q : Qn} {t : Int} (hs : SOk n s) (hq : QOk n q) (ht : -1000 ≤ t ∧ t ≤ 1000) : BOk (n + 1) (rootAtS s q t) := by
  have hm := hq.moment
  have h2 : 0 ≤ absI (t - q.moment) ∧ absI (t - q.moment) ≤ 2000 := by unfold absI; omega
  generalize he : absI (t - q.moment) = d at *
  have hsp := hs.speed
  have hdr := hs.drift
  have hp := hs.per
  have b1 := mul_bd (x := s.speed) (y := d) (K := 8) (L := 2000) (by omega) (by omega) (by decide) (by decide)
  have b2 := mul_bd (x := s.drift) (y := d) (K := 8) (L := 2000) (by omega) (by omega) (by decide) (by decide)
  have n1 : 0 ≤ s.speed * d := Int.mul_nonneg hsp.1 h2.1
  have n2 : 0 ≤ s.drift * d := Int.mul_nonneg hdr.1 h2.1
  have div : ∀ x : Int, 0 ≤ x → x ≤ 16000 → 0 ≤ -(-x / s.per) ∧ -(-x / s.per) ≤ 16000 := fun x h0 h1 => by
    have a1 := Int.ediv_le_ediv (a := -x) (b := 0) (c := s.per) (by omega) (by omega)
    rw [Int.zero_ediv] at a1
    have a2 : -16000 ≤ -x / s.per := by
      rw [Int.le_ediv_iff_mul_le (by omega)]
      have : -16000 * s.per ≤ -16000 * 1 := Int.mul_le_mul_of_nonpos_left (by decide) (by omega)
      omega
    omega
  have r1 : 0 ≤ reachS s d ∧ reachS s d ≤ 16000 := by
    unfold reachS
    rw [Int.neg_mul]
    exact div _ n1 (by omega)
  have r2 : 0 ≤ slipS s d ∧ slipS s d ≤ 16000 := by
    unfold slipS
    rw [Int.neg_mul]
    exact div _ n2 (by omega)
  have hl : lastS q.root ∈ q.root := by
    cases e : q.root.getLast? with
    | none =>
      rw [List.getLast?_eq_none_iff] at e
      have := hq.len; rw [e] at this; cases this
    | some x =>
      have : lastS q.root = x := by unfold lastS; rw [e]; rfl
      rw [this]; exact List.mem_of_getLast? e
  unfold rootAtS
  rw [he]
  refine ⟨by unfold widenS; simp [hq.len], fun z hz => ?_⟩
  unfold widenS at hz
  rcases List.mem_append.mp hz with h | h
  · obtain ⟨y, hy, rfl⟩ := List.mem_map.mp h
    have := hq.root y (List.dropLast_subset _ hy)
    simp only []; omega
  · rw [List.mem_singleton] at h
    subst h
    have := hq.root _ hl
    simp only []; omega
theorem d_judge_next : Does n_judge_next 5 b_judge_next p_judge_next := does fun ds M P ⟨n, s, q, rs, hd, hs', k, h1, hl, hs, hq, hr, hh, hk, hP⟩ => by
  subst h1
  refine ⟨rfl, fun R hR _ => ?_⟩
  have hR' := hR _ _ hP
  simp [b_judge_next, n_judge_next, e_root_at, Kw.d, -Bool.exists_bool]
  refine ⟨n, s, q, _, rfl, hs, hq, hk.moment, ?_⟩
  simp [e_judge_tree, -Bool.exists_bool]
  refine ⟨n, s, rs, hd, hs', k.cover, k.moment, k.tree, _, rfl, hl, hs, hr, hh, hk.moment, root_ok hs hq hk.moment, hk.tlen, ?_⟩
  simp [e_Held, -Bool.exists_bool]
  unfold jnext at hR'
  cases hj : jtree s rs hs' k.cover k.moment k.tree (rootAtS s q k.moment) with
  | none => rw [hj] at hR'; simp [dU]; exact hR'
  | some u =>
    rw [hj] at hR'
    simp [dU, dN]
    exact ⟨⟨k.moment, k.cover, some u⟩, rfl, trivial, hR'⟩
theorem asked_ok {q : Qn} {rs : List Rw} (h : RsOk n rs) : RsOk n (askedS q rs) := ⟨Nat.le_trans (List.length_filter_le _ _) h.len, fun r hr => h.all r (asked_sub hr)⟩
theorem jnext_ok {q : Qn} {rs : List Rw} {hs : List Hd} {k : Kw} {h : Hd} (hr : RsOk n rs) (hh : HsOk n hs) (hk : KwOk n k) (e : jnext s q rs hs k = some h) : HOk n h := by
  unfold jnext at e
  split at e
  · cases e
  · rename_i u hu
    cases e
    exact ⟨hk.moment, hk.len, hk.cover, fun u' e => by cases e; exact jtree_ok hr hh hu⟩
theorem jk_ok {q : Qn} {rs : List Rw} (hr : RsOk n rs) : ∀ (ks : List Kw) (held out : List Hd), (∀ k ∈ ks, KwOk n k) → held.length + ks.length ≤ 1000 → (∀ h ∈ held, HOk n h) → jk s q rs held ks = some out → HsOk n out
  | [], held, out, _, hl, hh, e => by unfold jk at e; cases e; exact ⟨by simpa using hl, hh⟩
  | k :: ks, held, out, hk, hl, hh, e => by
    unfold jk at e
    split at e
    · cases e
    · rename_i h hn
      refine jk_ok hr ks _ out (fun k h => hk k (by simp [h])) (by simp at hl ⊢; omega) (fun x hx => ?_) e
      rcases List.mem_append.mp hx with hx | hx
      · exact hh x hx
      · rw [List.mem_singleton] at hx
        subst hx
        exact jnext_ok hr ⟨by simp at hl; omega, hh⟩ (hk k (by simp)) hn
theorem jknown_ok {q : Qn} {rs : List Rw} {ks : List Kw} {out : List Hd} (hr : RsOk n rs) (hk : KsOk n ks) (e : jknown s q rs ks = some out) : HsOk n out :=
  jk_ok (asked_ok hr) ks [] out hk.all (by simpa using hk.len) (by simp) e
def jkI (s : Stg) (q : Qn) (rs : List Rw) (kd : D) (ks : List Kw) (a : Addr) (M : Mem) (n : Nat) (i : Nat) (ρ' : Rho) (M' : Mem) : Prop :=
  ∃ (held : List Hd) (x6 x7 : Option D), ρ' = [some s.d, some q.d, some (dRs rs), some kd, some (dRs (askedS q rs)), some (.adr a), x6, x7] ∧ M' = M.set a (.lst (held.map Hd.d)) ∧ held.length = i ∧ (∀ h ∈ held, HOk n h) ∧
    jk s q (askedS q rs) held (ks.drop i) = jknown s q rs ks
theorem d_judge_known : Does n_judge_known 4 b_judge_known p_judge_known := does fun ds M P ⟨n, s, q, rs, kd, ks, h1, hw, hs, hq, hr, hk, hP⟩ => by
  subst h1
  refine ⟨rfl, fun R hR hR2 => ?_⟩
  have hR' := hR _ _ hP
  have hlen := hk.len
  simp [b_judge_known, n_judge_known, e_asked, -Bool.exists_bool]
  refine ⟨n, q, rs, rfl, hr, ?_⟩
  simp [-Bool.exists_bool]
  intro a ha
  refine ⟨_, hw, ?_⟩
  refine for_map ks _ (jkI s q rs kd ks a M n) ⟨[], _, _, rfl, rfl, rfl, by simp, rfl⟩ ?_ ?_
  · rintro i k ρ' M' hi ⟨held, x6, x7, rfl, rfl, hhl, hho, hj⟩
    have hil : i < ks.length := by
      obtain ⟨h, e⟩ := List.getElem?_eq_some_iff.mp hi; exact h
    have hd' : ks.drop i = k :: ks.drop (i + 1) := by
      obtain ⟨h, e⟩ := List.getElem?_eq_some_iff.mp hi
      rw [List.drop_eq_getElem_cons h, e]
    have hko := hk.all k (List.mem_of_getElem? hi)
    have hjj : jk s q (askedS q rs) held (k :: ks.drop (i + 1)) = match jnext s q (askedS q rs) held k with | none => none | some h => jk s q (askedS q rs) (held ++ [h]) (ks.drop (i + 1)) := rfl
    rw [hd', hjj] at hj
    simp [e_judge_next, -Bool.exists_bool]
    refine ⟨n, s, q, askedS q rs, .adr a, held, k, rfl, l_adr Mem.set_same, hs, hq, asked_ok hr, ⟨by omega, hho⟩, hko, ?_⟩
    cases hn : jnext s q (askedS q rs) held k with
    | none =>
      rw [hn] at hj
      simp [dH]
      refine hR2 _ _ M (le_put ha Mem.le_refl) ?_
      rw [← hj] at hP; exact hP
    | some h =>
      rw [hn] at hj
      have hho' := jnext_ok (asked_ok hr) ⟨by omega, hho⟩ hko hn
      simp [dH, Hd.d, Mem.set_same, Mem.set_set]
      refine ⟨by omega, held ++ [h], _, _, rfl, by simp [Hd.d], by simp [hhl], ?_, hj⟩
      intro x hx
      rcases List.mem_append.mp hx with hx | hx
      · exact hho x hx
      · rw [List.mem_singleton] at hx; subst hx; exact hho'
  · rintro ρ' M' ⟨held, x6, x7, rfl, rfl, hhl, hho, hj⟩
    rw [List.drop_length] at hj
    have hj : some held = jknown s q rs ks := hj
    rw [← hj] at hR'
    simp [Mem.set_same, Mem.set_del ha]
    exact hR'
theorem used_ok {q : Qn} {rs : List Rw} {hs : List Hd} {ts : List Tr} {b : Bx} (hr : RsOk n rs) (hh : HsOk n hs) (ht : TsOk ts) : UsOk (usedBy s q rs hs ts b) := by
  refine ⟨by unfold usedBy; simp; exact ht.len, fun u hu => ?_⟩
  unfold usedBy at hu
  obtain ⟨tr, _, e⟩ := List.mem_map.mp hu
  exact jtree_ok (asked_ok hr) hh e
theorem d_used_by : Does n_used_by 6 b_used_by p_used_by := does fun ds M P ⟨n, s, q, rs, hs', td, ts, b, h1, hw, hs, hq, hr, hh, ht, hb, hP⟩ => by
  subst h1
  refine ⟨rfl, fun R hR hR2 => ?_⟩
  have hR' := hR _ _ hP
  simp [b_used_by, n_used_by, e_asked, -Bool.exists_bool]
  refine ⟨n, q, rs, rfl, hr, ?_⟩
  simp [-Bool.exists_bool]
  refine ⟨_, hw, ?_⟩
  refine lc_map ts _ (fun tr => dU (jtree s (askedS q rs) hs' [] q.moment tr b)) (by have := ht.len; omega) (fun Ma hl tr htr => ?_) ?_
  · simp [e_judge_tree, Qn.d]
    intro E hE
    exact ⟨n, s, askedS q rs, _, hs', [], q.moment, tr, b, rfl, rfl, hs, asked_ok hr, hh, hq.moment, hb, ht.all tr htr, hE⟩
  · have e : (ts.map fun tr => dU (jtree s (askedS q rs) hs' [] q.moment tr b)) = (usedBy s q rs hs' ts b).map dU := by unfold usedBy; rw [List.map_map]; rfl
    rw [e]
    exact hR'
end Sp
end
section
set_option Elab.async false
set_option linter.all false
set_option maxRecDepth 100000
/-! Plain mathematics: the steps made stand as they must. -/
namespace Sp
open PySem L2
variable {us : Us} {hn : List Str}
structure Nd (us : Us) (hn : List Str) (mk : Nat → Mks) (hi a : Nat) (x : Ns) (ns : List Str) : Prop where
  at_ : us[x.1]? = some (some ns)
  out : ∀ y ∈ ns, y ∉ (mk a).barred
  zero : (mk a).left = 0 → x.2 = []
  more : (mk a).left ≠ 0 → x.2.length = (susp ns hn).length
  next : ∀ (k j : Nat) (y : Str), x.2[k]? = some j → (susp ns hn)[k]? = some y → a < j ∧ j < hi ∧ mk j = ⟨(mk a).left - 1, (mk a).barred ++ [y]⟩
theorem Nd.congr {mk mk' : Nat → Mks} {hi hi' a : Nat} {x : Ns} {ns : List Str} (h : Nd us hn mk hi a x ns) (hh : hi ≤ hi') (ha : a < hi) (e : ∀ j, a ≤ j → j < hi → mk' j = mk j) : Nd us hn mk' hi' a x ns := by
  have ea := e a (Nat.le_refl _) ha
  refine ⟨h.at_, by rw [ea]; exact h.out, by rw [ea]; exact h.zero, by rw [ea]; exact h.more, fun k j y h1 h2 => ?_⟩
  obtain ⟨q1, q2, q3⟩ := h.next k j y h1 h2
  refine ⟨q1, by omega, ?_⟩
  rw [e j (by omega) q2, ea]; exact q3
def flat (st : List Ns) : List Nat := st.flatMap (·.2)
theorem flat_cons {x : Ns} {st : List Ns} : flat (x :: st) = x.2 ++ flat st := by simp [flat]
theorem flat_app {a b : List Ns} : flat (a ++ b) = flat a ++ flat b := by simp [flat]
structure Blk (us : Us) (hn : List Str) (mk : Nat → Mks) (s : Nat) (st : List Ns) (l : Nat) (path : List Str) : Prop where
  pos : 0 < st.length
  top : mk s = ⟨l, path⟩
  nds : ∀ i x, st[i]? = some x → ∃ ns, Nd us hn mk (s + st.length) (s + i) x ns
  nod : (flat st).Nodup
  rng : ∀ j ∈ flat st, s < j ∧ j < s + st.length
  bar : ∀ i, i < st.length → (mk (s + i)).barred.length ≤ path.length + l
  size : st.length + 4 ≤ 5 ^ (l + 1)
theorem kids_blk {l : Nat} {path : List Str} {f : Str → Nat → List Str ⊕ List Ns} (hf : ∀ nm s st, f nm s = .inr st → ∃ mk, Blk us hn mk s st l (path ++ [nm])) : ∀ (L : List Str) (s : Nat) (ks : List Ns) (fo : List Nat), kids f L s = .inr (ks, fo) →
    ∃ mk : Nat → Mks, (∀ i x, ks[i]? = some x → ∃ ns, Nd us hn mk (s + ks.length) (s + i) x ns) ∧ fo.length = L.length ∧ (∀ (k j : Nat) (y : Str), fo[k]? = some j → L[k]? = some y → s ≤ j ∧ j < s + ks.length ∧ mk j = ⟨l, path ++ [y]⟩) ∧
      (fo ++ flat ks).Nodup ∧ (∀ j ∈ fo ++ flat ks, s ≤ j ∧ j < s + ks.length) ∧ (∀ i, i < ks.length → (mk (s + i)).barred.length ≤ path.length + 1 + l) ∧ ks.length ≤ L.length * (5 ^ (l + 1) - 4)
  | [], s, ks, fo, h => by
    unfold kids at h
    cases h
    exact ⟨fun _ => ⟨0, []⟩, by simp, rfl, by simp, by simp [flat], by simp [flat], by simp, by simp⟩
  | nm :: r, s, ks, fo, h => by
    unfold kids at h
    split at h
    · cases h
    · rename_i st hst
      split at h
      · cases h
      · rename_i ks' fo' hks
        cases h
        obtain ⟨mk1, b⟩ := hf nm s st hst
        obtain ⟨mk2, g1, g2, g3, g4, g5, g6, g7⟩ := kids_blk hf r (s + st.length) ks' fo' hks
        have hpos := b.pos
        have e1 : ∀ j, j < s + st.length → (fun j => if j < s + st.length then mk1 j else mk2 j) j = mk1 j := fun j hj => if_pos hj
        have e2 : ∀ j, s + st.length ≤ j → (fun j => if j < s + st.length then mk1 j else mk2 j) j = mk2 j := fun j hj => if_neg (by omega)
        generalize hmk : (fun j => if j < s + st.length then mk1 j else mk2 j) = mk at *
        refine ⟨mk, fun i x hx => ?_, by simp [g2], fun k j y hk hy => ?_, ?_, fun j hj => ?_, fun i hi => ?_, ?_⟩
        · rw [List.length_append]
          by_cases hi : i < st.length
          · rw [List.getElem?_append_left hi] at hx
            obtain ⟨ns, hnd⟩ := b.nds i x hx
            exact ⟨ns, hnd.congr (by omega) (by omega) fun j _ h2 => e1 j h2⟩
          · rw [List.getElem?_append_right (by omega)] at hx
            obtain ⟨ns, hnd⟩ := g1 _ x hx
            have hil : i - st.length < ks'.length := by
              rcases Nat.lt_or_ge (i - st.length) ks'.length with h | h
              · exact h
              · rw [List.getElem?_eq_none h] at hx; cases hx
            have ei : s + st.length + (i - st.length) = s + i := by omega
            rw [ei] at hnd
            exact ⟨ns, hnd.congr (by omega) (by omega) fun j h1 h2 => e2 j (by omega)⟩
        · rw [List.length_append]
          cases k with
          | zero =>
            simp at hk hy
            subst hk; subst hy
            exact ⟨Nat.le_refl _, by omega, by rw [e1 _ (by omega)]; exact b.top⟩
          | succ k =>
            obtain ⟨q1, q2, q3⟩ := g3 k j y (by simpa using hk) (by simpa using hy)
            exact ⟨by omega, by omega, by rw [e2 _ q1]; exact q3⟩
        · rw [flat_app]
          rw [List.nodup_append] at g4
          obtain ⟨n1, n2, n3⟩ := g4
          rw [List.cons_append, List.nodup_cons, List.nodup_append, List.nodup_append]
          refine ⟨fun hm => ?_, n1, ⟨b.nod, n2, fun x hx y hy e => ?_⟩, fun x hx y hy e => ?_⟩
          · rw [List.mem_append, List.mem_append] at hm
            rcases hm with hm | hm | hm
            · have := g5 s (by simp [hm]); omega
            · have := b.rng s hm; omega
            · have := g5 s (by simp [hm]); omega
          · subst e
            have := b.rng x hx
            have := g5 x (by simp [hy]); omega
          · subst e
            rcases List.mem_append.mp hy with hy | hy
            · have := b.rng x hy
              have := g5 x (by simp [hx]); omega
            · exact n3 x hx x hy rfl
        · rw [List.length_append]
          rw [flat_app, List.cons_append, List.mem_cons, List.mem_append, List.mem_append] at hj
          rcases hj with rfl | hj | hj | hj
          · omega
          · have := g5 j (by simp [hj]); omega
          · have := b.rng j hj; omega
          · have := g5 j (by simp [hj]); omega
        · rw [List.length_append] at hi
          by_cases h : i < st.length
          · rw [e1 _ (by omega)]
            have := b.bar i h
            simp at this; omega
          · rw [e2 _ (by omega)]
            have := g6 (i - st.length) (by omega)
            have ei : s + st.length + (i - st.length) = s + i := by omega
            rw [ei] at this; exact this
        · have hs := b.size
          rw [List.length_append, List.length_cons, Nat.add_mul]
          omega
theorem susp_len {u : List Str} (h : u.length ≤ 4) : (susp u hn).length ≤ 4 := Nat.le_trans (List.length_filter_le _ _) h
theorem add_blk (hu : ∀ u, some u ∈ us → u.length ≤ 4) : ∀ (l : Nat) (path : List Str) (s : Nat) (st : List Ns), addS us hn l path s = .inr st → ∃ mk, Blk us hn mk s st l path
  | 0, path, s, st, h => by
    unfold addS at h
    split at h
    · cases h
    · rename_i m hm
      cases h
      obtain ⟨ns, h1, h2, h3⟩ := unmet_some hm
      refine ⟨fun _ => ⟨0, path⟩, by simp, rfl, fun i x hx => ?_, by simp [flat], by simp [flat], by simp, by simp⟩
      cases i with
      | zero =>
        simp at hx
        subst hx
        exact ⟨ns, h1, h3, fun _ => rfl, fun h => absurd rfl h, by simp⟩
      | succ i => simp at hx
  | l + 1, path, s, st, h => by
    unfold addS at h
    split at h
    · cases h
    · rename_i m hm
      obtain ⟨ns, h1, h2, h3⟩ := unmet_some hm
      split at h
      · cases h
      · rename_i ks fo hk
        cases h
        rw [h2] at hk
        obtain ⟨mk2, g1, g2, g3, g4, g5, g6, g7⟩ := kids_blk (fun nm s st h => add_blk hu l (path ++ [nm]) s st h) _ _ ks fo hk
        have e1 : (fun j => if j = s then (⟨(l + 1 : Nat), path⟩ : Mks) else mk2 j) s = ⟨(l + 1 : Nat), path⟩ := if_pos rfl
        have e2 : ∀ j, s < j → (fun j => if j = s then (⟨(l + 1 : Nat), path⟩ : Mks) else mk2 j) j = mk2 j := fun j hj => if_neg (by omega)
        generalize hmk : (fun j => if j = s then (⟨(l + 1 : Nat), path⟩ : Mks) else mk2 j) = mk at *
        have hll : s + ((m, fo) :: ks).length = s + 1 + ks.length := by simp; omega
        refine ⟨mk, by simp, e1, fun i x hx => ?_, ?_, fun j hj => ?_, fun i hi => ?_, ?_⟩
        · rw [hll]
          cases i with
          | zero =>
            simp at hx
            subst hx
            refine ⟨ns, h1, ?_, ?_, ?_, ?_⟩
            · rw [Nat.add_zero, e1]; exact h3
            · rw [Nat.add_zero, e1]
              intro h
              have h : ((l + 1 : Nat) : Int) = 0 := h
              omega
            · intro _; exact g2
            · intro k j y hk' hy
              rw [Nat.add_zero, e1]
              obtain ⟨q1, q2, q3⟩ := g3 k j y hk' hy
              refine ⟨by omega, q2, ?_⟩
              rw [e2 j (by omega), q3]
              show (⟨(l : Int), _⟩ : Mks) = ⟨((l + 1 : Nat) : Int) - 1, _⟩
              congr 1; omega
          | succ i =>
            obtain ⟨ns', hnd⟩ := g1 i x (by simpa using hx)
            have hil : i < ks.length := by
              rcases Nat.lt_or_ge i ks.length with h | h
              · exact h
              · have hx : ks[i]? = some x := by simpa using hx
                rw [List.getElem?_eq_none h] at hx; cases hx
            have ei : s + 1 + i = s + (i + 1) := by omega
            rw [ei] at hnd
            exact ⟨ns', hnd.congr (Nat.le_refl _) (by omega) fun j h1 _ => e2 j (by omega)⟩
        · rw [flat_cons]; exact g4
        · rw [flat_cons] at hj
          have := g5 j hj
          simp; omega
        · cases i with
          | zero => rw [Nat.add_zero, e1]; simp
          | succ i =>
            rw [e2 _ (by omega)]
            have := g6 i (by simpa using hi)
            have ei : s + 1 + i = s + (i + 1) := by omega
            rw [ei] at this; omega
        · have h4 : (susp ns hn).length ≤ 4 := susp_len (hu ns (List.mem_of_getElem? h1))
          have h5 : (susp ns hn).length * (5 ^ (l + 1) - 4) ≤ 4 * (5 ^ (l + 1) - 4) := Nat.mul_le_mul_right _ h4
          have h6 : 5 ≤ 5 ^ (l + 1) := by
            have : 1 ≤ 5 ^ l := Nat.one_le_pow _ _ (by decide)
            rw [Nat.pow_succ]; omega
          have h7 : 5 ^ (l + 1 + 1) = 5 ^ (l + 1) * 5 := Nat.pow_succ ..
          rw [List.length_cons]
          omega
theorem flat_two : ∀ {st : List Ns} {i i' j : Nat} {x x' : Ns}, (flat st).Nodup → st[i]? = some x → st[i']? = some x' → j ∈ x.2 → j ∈ x'.2 → i = i'
  | [], i, i', j, x, x', _, h1, _, _, _ => by simp at h1
  | y :: st, i, i', j, x, x', hnd, h1, h2, h3, h4 => by
    rw [flat_cons, List.nodup_append] at hnd
    obtain ⟨n1, n2, n3⟩ := hnd
    have mem : ∀ {i : Nat} {x : Ns}, st[i]? = some x → j ∈ x.2 → j ∈ flat st := fun h1 h2 => by
      unfold flat
      rw [List.mem_flatMap]
      exact ⟨_, List.mem_of_getElem? h1, h2⟩
    cases i with
    | zero =>
      cases i' with
      | zero => rfl
      | succ i' =>
        simp at h1 h2
        subst h1
        exact absurd rfl (n3 j h3 j (mem h2 h4))
    | succ i =>
      cases i' with
      | zero =>
        simp at h1 h2
        subst h2
        exact absurd rfl (n3 j h4 j (mem h1 h3))
      | succ i' =>
        simp at h1 h2
        rw [flat_two n2 h1 h2 h3 h4]
theorem flat_nd : ∀ {st : List Ns} {i : Nat} {x : Ns}, (flat st).Nodup → st[i]? = some x → x.2.Nodup
  | [], i, x, _, h => by simp at h
  | y :: st, 0, x, hnd, h => by
    simp at h; subst h
    rw [flat_cons, List.nodup_append] at hnd
    exact hnd.1
  | y :: st, i + 1, x, hnd, h => by
    rw [flat_cons, List.nodup_append] at hnd
    exact flat_nd hnd.2.1 (by simpa using h)
end Sp
end
section
set_option Elab.async false
set_option linter.all false
set_option maxRecDepth 100000
/-! Walks: blame and the making of steps. -/
namespace Sp
open PySem L2
theorem d_joined : Does n_joined 3 b_joined p_joined := does fun ds M P ⟨m, l, b, h1, hb, hm, hP⟩ => by
  subst h1
  refine ⟨rfl, fun R hR _ => ?_⟩
  have hR' := hR _ _ hP
  cases m with
  | none =>
    simp [b_joined, n_joined, dM, e_Marks, -Bool.exists_bool]
    exact ⟨⟨l, b⟩, rfl, trivial, hR'⟩
  | some m =>
    have := hm m rfl
    simp [b_joined, n_joined, dM, Mks.d, e_Marks, dN, -Bool.exists_bool]
    exact ⟨by omega, ⟨max m.left l, m.barred ++ b⟩, by simp [aM, dN], trivial, hR'⟩
theorem susp_lc {ρ : Rho} {M : Mem} {Q : D → Mem → Prop} {ns hn : List Str} {i h : Nat} (hne : i ≠ h) (hi : i < ρ.length) (hh : ρ[h]? = some (some (dN hn))) (hl : ns.length ≤ 1000) (hQ : Q (.lst ((susp ns hn).map D.str)) M) :
    lcD (.var i) (.one i) (.cmp .notin (.var i) (.var h)) false ρ Q (ns.map D.str) M := by
  refine lc_filter ns _ (fun n => !decide (n ∈ hn)) D.str (by omega) (fun Ma hle x hx => ?_) hQ
  have h1 : ((ρ.set i none).set i (some (D.str x)))[i]? = some (some (D.str x)) := List.getElem?_set_self (by simpa using hi)
  have h2 : ((ρ.set i none).set i (some (D.str x)))[h]? = some (some (dN hn)) := by rw [List.getElem?_set_ne hne, List.getElem?_set_ne hne]; exact hh
  show (∀ C : D → Mem → Prop, C _ Ma → wpE _ ((ρ.set i none).set i (some (D.str x))) Ma C) ∧ (_ → ∀ E : D → Mem → Prop, E _ Ma → wpE _ ((ρ.set i none).set i (some (D.str x))) Ma E)
  simp only [w_var, w_cmp, h1, h2]
  refine ⟨fun C hC => ⟨_, rfl, _, rfl, c_notin (xs := hn) rfl (fun ns h => by cases h) hC⟩, fun _ E hE => ⟨_, rfl, hE⟩⟩
theorem d_step_right : Does n_step_right 6 b_step_right p_step_right := does fun ds M P ⟨us, st, m, hn, a, k, h1, hu, hl, hP⟩ => by
  subst h1
  refine ⟨rfl, fun R hR _ => ?_⟩
  have hR' := hR _ _ hP
  unfold stepRight at hR'
  obtain ⟨t, fo⟩ := st
  simp only [] at hR' hl
  simp [b_step_right, n_step_right, dBl, dUs, -Bool.exists_bool]
  by_cases c0 : 0 ≤ t
  · by_cases c1 : t < us.length
    · have hk : t.toNat < us.length := by omega
      rw [if_pos ⟨c0, c1⟩, List.getElem?_eq_getElem hk] at hR'
      have e1 : atI (us.map dU) t = some (dU us[t.toNat]) := atI_nat (k := t.toNat) (by omega) (by rw [List.getElem?_map, List.getElem?_eq_getElem hk]; rfl)
      have hmem : us[t.toNat] ∈ us := List.getElem_mem hk
      generalize us[t.toNat] = u at *
      simp [c0, c1, e1, -Bool.exists_bool]
      cases u with
      | none => simp [dU]; exact hR'
      | some ns =>
        have hns := (hu.all ns hmem).len
        simp only [] at hR'
        simp [dU, dN, -Bool.exists_bool]
        refine lc_map ns _ (fun n => .bl (decide (n ∈ m.barred))) (by omega) (fun Ma hle x hx => ?_) ?_
        · simp [Mks.d, dN]
          intro E hE
          exact c_isin (xs := m.barred) rfl (fun ns h => by cases h) (fun ns h => by cases h) hE
        · have e : (ns.map fun n => D.bl (decide (n ∈ m.barred))) = (ns.map fun n => decide (n ∈ m.barred)).map D.bl := by rw [List.map_map]; rfl
          rw [e]
          refine bi_any ?_
          rw [List.any_map]
          have e2 : ns.any (id ∘ fun n => decide (n ∈ m.barred)) = ns.any fun n => decide (n ∈ m.barred) := rfl
          rw [e2]
          by_cases c2 : (ns.any fun n => decide (n ∈ m.barred)) = true
          · rw [if_pos c2] at hR'
            rw [c2]
            exact ⟨true, rfl, by simpa using hR'⟩
          · rw [if_neg c2] at hR'
            have c2' : (ns.any fun n => decide (n ∈ m.barred)) = false := by simpa using c2
            rw [c2']
            refine ⟨false, rfl, ?_⟩
            simp [Mks.d, dP, dN, -Bool.exists_bool]
            by_cases c3 : m.left = 0
            · rw [if_pos c3] at hR'
              simp [c3]
              simpa using hR'
            · rw [if_neg c3] at hR'
              simp [c3, e1, dU, dN]
              refine susp_lc (hn := hn) (by decide) (by simp) (by simp [dN]) (by omega) ?_
              simp [-Bool.exists_bool]
              by_cases c4 : fo.length = (susp ns hn).length
              · have c4' : (fo.length : Int) = (susp ns hn).length := by omega
                simp [c4, -Bool.exists_bool]
                simp [c4] at hR'
                refine lc_map fo _ (fun n => .bl (decide (a < n) && decide (n < k))) (by omega) (fun Ma hle x hx => ?_) ?_
                · simp [-Bool.exists_bool]
                  intro E hE
                  split <;> simp_all
                · have e : (fo.map fun n => D.bl (decide (a < n) && decide (n < k))) = (fo.map fun n => decide (a < n) && decide (n < k)).map D.bl := by rw [List.map_map]; rfl
                  rw [e]
                  refine bi_all ?_
                  rw [List.all_map]
                  exact hR'
              · have c4' : ¬ (fo.length : Int) = (susp ns hn).length := by omega
                simp [c4] at hR'
                simp [c4, c4']; exact hR'
    · rw [if_neg (fun h => c1 h.2)] at hR'
      simp [c0, c1]; exact hR'
  · rw [if_neg (fun h => c0 h.1)] at hR'
    simp [c0]; exact hR'
theorem d_suspects : Does n_suspects 2 b_suspects p_suspects := does fun ds M P ⟨ns, hn, h1, hl, hP⟩ => by
  subst h1
  refine ⟨rfl, fun R hR _ => ?_⟩
  have hR' := hR _ _ hP
  simp [b_suspects, n_suspects]
  refine ⟨ns.map D.str, rfl, ?_⟩
  exact susp_lc (by decide) (by simp) (by simp) hl hR'
theorem unmet_none {path : List Str} : ∀ {us : Us} {i : Nat}, unmetFrom path i us = none → ∀ u, some u ∈ us → (u.any fun n => decide (n ∈ path)) = true
  | [], i, _, u, hu => by cases hu
  | none :: us, i, h, u, hu => by
    rcases List.mem_cons.mp hu with e | hu
    · cases e
    · exact unmet_none (us := us) (i := i + 1) h u hu
  | some ns :: us, i, h, u, hu => by
    unfold unmetFrom at h
    split at h
    · rename_i hc
      rcases List.mem_cons.mp hu with e | hu
      · cases e; exact hc
      · exact unmet_none (us := us) (i := i + 1) h u hu
    · cases h
theorem zipIdx_at {α : Type} {L : List α} {i : Nat} {a : α} (h : L[i]? = some a) : L.zipIdx[i]? = some (a, i) := by rw [List.getElem?_zipIdx, h]; simp
theorem d_first_unmet : Does n_first_unmet 2 b_first_unmet p_first_unmet := does fun ds M P ⟨us, p, h1, hu, hP⟩ => by
  subst h1
  refine ⟨rfl, fun R hR _ => ?_⟩
  have hR' := hR _ _ hP
  simp only [b_first_unmet, n_first_unmet, w_scons, w_forr, w_enum, w_snil, w_ret, w_non, w_var, dUs]
  refine ⟨_, rfl, _, rfl, rfl, ?_⟩
  rw [enum_enc]
  refine for_map us.zipIdx _ (fun i ρ' M' => M' = M ∧ unmetFrom p i (us.drop i) = unmet us p ∧ ∃ x y z, ρ' = [some (.lst (us.map dU)), some (dN p), x, y, z]) ⟨rfl, rfl, _, _, _, rfl⟩ ?_ ?_
  · rintro i ⟨u, i'⟩ ρ' M' hi ⟨rfl, hj, x, y, z, rfl⟩
    have hui : us[i]? = some u ∧ i' = i := by
      rw [List.getElem?_zipIdx] at hi
      cases h : us[i]? with
      | none => rw [h] at hi; cases hi
      | some v => rw [h] at hi; simp at hi; exact ⟨by rw [hi.1], hi.2.symm⟩
    obtain ⟨hui, rfl⟩ := hui
    have hd' : us.drop i' = u :: us.drop (i' + 1) := by
      obtain ⟨h, e⟩ := List.getElem?_eq_some_iff.mp hui
      rw [List.drop_eq_getElem_cons h, e]
    rw [hd'] at hj
    simp [-Bool.exists_bool]
    cases u with
    | none =>
      have hj : unmetFrom p (i' + 1) (us.drop (i' + 1)) = unmet us p := hj
      simp [dU]
      exact hj
    | some ns =>
      have hns := (hu.all ns (List.mem_of_getElem? hui)).len
      have hj : (if (ns.any fun n => decide (n ∈ p)) = true then unmetFrom p (i' + 1) (us.drop (i' + 1)) else some i') = unmet us p := hj
      simp [dU, dN, -Bool.exists_bool]
      refine lc_map ns _ (fun n => .bl (decide (n ∈ p))) (by omega) (fun Ma hle x hx => ?_) ?_
      · simp [dN]
        intro E hE
        exact c_isin (xs := p) rfl (fun ns h => by cases h) (fun ns h => by cases h) hE
      · have e : (ns.map fun n => D.bl (decide (n ∈ p))) = (ns.map fun n => decide (n ∈ p)).map D.bl := by rw [List.map_map]; rfl
        rw [e]
        refine bi_any ?_
        rw [List.any_map]
        have e2 : ns.any (id ∘ fun n => decide (n ∈ p)) = ns.any fun n => decide (n ∈ p) := rfl
        rw [e2]
        by_cases c2 : (ns.any fun n => decide (n ∈ p)) = true
        · rw [if_pos c2] at hj
          rw [c2]
          simp
          exact hj
        · rw [if_neg c2] at hj
          have c2' : (ns.any fun n => decide (n ∈ p)) = false := by simpa using c2
          rw [c2']
          simp
          rw [← hj] at hR'
          exact hR'
  · rintro ρ' M' ⟨rfl, hj, x, y, z, rfl⟩
    have : us.zipIdx.length = us.length := by simp
    rw [this, List.drop_length] at hj
    have hj : none = unmet us p := hj
    rw [← hj] at hR'
    exact hR'
end Sp
end
section
set_option Elab.async false
set_option linter.all false
set_option maxRecDepth 100000
/-! Walks: blames_right over steps made; _add_steps. -/
namespace Sp
open PySem L2
/-- what stands in the rows while blames_right goes on -/
structure RowsOk (mk : Nat → Mks) (st : List Ns) (i : Nat) (rows : List (Option Mks)) (done : Nat → Prop) : Prop where
  len : rows.length = st.length
  at_ : ∀ (j : Nat) (m : Mks), rows[j]? = some (some m) → m = mk j ∧ (j = 0 ∨ (∃ i' x, i' < i ∧ st[i']? = some x ∧ j ∈ x.2) ∨ done j)
def brI (us : Us) (hn : List Str) (l : Nat) (st : List Ns) (mk : Nat → Mks) (a : Addr) (M : Mem) (i : Nat) (ρ' : Rho) (M' : Mem) : Prop :=
  ∃ rows x5 x6 x7 x8 x9 x10, ρ' = [some (dUs us), some (.tup ((List.map bsOf st).map dBl)), some (dN hn), some (.int (l : Nat)), some (.adr a), x5, x6, x7, x8, x9, x10] ∧ M' = M.set a (.lst (rows.map dM)) ∧ RowsOk mk st i rows (fun _ => False)
theorem nd_inj {α : Type} : ∀ {L : List α} {i j : Nat} {a : α}, L.Nodup → L[i]? = some a → L[j]? = some a → i = j
  | [], i, j, a, _, h, _ => by simp at h
  | x :: L, 0, 0, a, _, _, _ => rfl
  | x :: L, 0, j + 1, a, hn, h1, h2 => by
    simp at h1 h2; subst h1
    exact absurd (List.mem_of_getElem? h2) (List.nodup_cons.mp hn).1
  | x :: L, i + 1, 0, a, hn, h1, h2 => by
    simp at h1 h2; subst h2
    exact absurd (List.mem_of_getElem? h1) (List.nodup_cons.mp hn).1
  | x :: L, i + 1, j + 1, a, hn, h1, h2 => by
    simp at h1 h2
    rw [nd_inj (List.nodup_cons.mp hn).2 h1 h2]
theorem susp_sub {ns hn : List Str} {x : Str} (h : x ∈ susp ns hn) : x ∈ ns := (List.mem_filter.mp h).1
theorem d_blames_right : Does n_blames_right 4 b_blames_right p_blames_right := does fun ds M P ⟨us, hn, l, st, h1, hu, hl2, hadd, hP⟩ => by
  subst h1
  refine ⟨rfl, fun R hR hR2 => ?_⟩
  obtain ⟨mk, b⟩ := add_blk (fun u h => (hu.all u h).len) l [] 0 st hadd
  have hsize : st.length ≤ 200 := by
    have := b.size
    have : 5 ^ (l + 1) ≤ 5 ^ 3 := Nat.pow_le_pow_right (by decide) (by omega)
    omega
  have hpos := b.pos
  have hst0 : (st.length : Int) ≠ 0 := by omega
  simp [b_blames_right, n_blames_right, e_Marks, -Bool.exists_bool]
  have hst0' : ¬ st = [] := fun e => by rw [e] at hpos; exact absurd hpos (by decide)
  simp [hst0', hst0, -Bool.exists_bool]
  refine ⟨st.length, rfl, by omega, fun a ha => ?_⟩
  refine ⟨⟨(l : Nat), []⟩, rfl, trivial, ?_⟩
  simp [Mem.set_same, Mem.set_set]
  refine ⟨0, ixN_nat (k := 0) rfl hpos, ?_⟩
  have einit : (List.replicate st.length D.non).set 0 (.ins 3 (aM ⟨(l : Nat), []⟩)) = ((List.replicate st.length (none : Option Mks)).set 0 (some ⟨(l : Nat), []⟩)).map dM := by
    rw [List.map_set, List.map_replicate]; rfl
  rw [einit]
  have eidx := enum_enc (fun x => dBl (bsOf x)) st
  have eidx' : List.zipWith (fun (i : Nat) u => D.tup [D.int (i : Int), u]) (List.range st.length) (st.map fun x => dBl (bsOf x)) = st.zipIdx.map fun x => .tup [.int (x.2 : Int), dBl (bsOf x.1)] := by
    rw [← eidx, List.length_map]
  have ecomp : (dBl ∘ bsOf) = fun x => dBl (bsOf x) := rfl
  rw [ecomp, eidx']
  refine for_map st.zipIdx _ (brI us hn l st mk a M) ?_ ?_ ?_
  · refine ⟨_, _, _, _, _, _, _, by rw [List.map_map]; rfl, rfl, by simp, fun j m hj => ?_⟩
    rw [List.getElem?_set] at hj
    split at hj
    · rename_i e
      subst e
      split at hj
      · cases hj
        exact ⟨b.top.symm, .inl rfl⟩
      · cases hj
    · rw [List.getElem?_replicate] at hj
      split at hj <;> cases hj
  · rintro i ⟨x, i'⟩ ρ' M' hi ⟨rows, x5, x6, x7, x8, x9, x10, rfl, rfl, hro⟩
    have hxi : st[i]? = some x ∧ i' = i := by
      rw [List.getElem?_zipIdx] at hi
      cases h : st[i]? with
      | none => rw [h] at hi; cases hi
      | some v => rw [h] at hi; simp at hi; exact ⟨by rw [hi.1], hi.2.symm⟩
    obtain ⟨hx, rfl⟩ := hxi
    have hil : i' < st.length := (List.getElem?_eq_some_iff.mp hx).1
    have hrl : i' < rows.length := by rw [hro.len]; exact hil
    have e1 : atI (rows.map dM) (i' : Int) = some (dM rows[i']) := atI_nat rfl (by rw [List.getElem?_map, List.getElem?_eq_getElem hrl]; rfl)
    have hMa : (M.set a (.lst (rows.map dM))) a = some (.lst (rows.map dM)) := Mem.set_same
    have hra : ∀ m, rows[i'] = some m → m = mk i' := fun m hm => (hro.at_ i' m (by rw [List.getElem?_eq_getElem hrl, hm])).1
    simp [i_adr hMa, e1, -Bool.exists_bool]
    cases hrow : rows[i'] with
    | none =>
      simp [dM]
      exact ⟨rows, _, _, _, _, _, _, by rw [List.map_map], rfl, hro.len, fun j m hj => by
        obtain ⟨q1, q2⟩ := hro.at_ j m hj
        refine ⟨q1, ?_⟩
        rcases q2 with q2 | ⟨i2, y, h1, h2, h3⟩ | q2
        · exact .inl q2
        · exact .inr (.inl ⟨i2, y, by omega, h2, h3⟩)
        · exact q2.elim⟩
    | some m =>
      have hm := hra m hrow
      obtain ⟨ns, nd⟩ := b.nds i' x hx
      simp only [Nat.zero_add] at nd
      have hns := hu.all ns (List.mem_of_getElem? nd.at_)
      have hfl : x.2.length ≤ 1000 := by
        by_cases h0 : m.left = 0
        · rw [nd.zero (by rw [← hm]; exact h0)]; simp
        · rw [nd.more (by rw [← hm]; exact h0)]
          have := susp_len (hn := hn) hns.len; omega
      have hstep : stepRight us (bsOf x) m hn (i' : Int) (st.length : Int) = true := by
        have hlt : x.1 < us.length := (List.getElem?_eq_some_iff.mp nd.at_).1
        unfold stepRight bsOf
        simp only []
        rw [if_pos ⟨by omega, by omega⟩]
        have : ((x.1 : Int)).toNat = x.1 := by simp
        rw [this, nd.at_]
        simp only []
        rw [if_neg (by
          intro h
          rw [List.any_eq_true] at h
          obtain ⟨y, h1, h2⟩ := h
          have := nd.out y h1
          rw [← hm] at this
          exact this (by simpa using h2))]
        by_cases h0 : m.left = 0
        · rw [if_pos h0, nd.zero (by rw [← hm]; exact h0)]; rfl
        · rw [if_neg h0]
          have hle := nd.more (by rw [← hm]; exact h0)
          simp only [List.length_map, hle, decide_true, Bool.true_and, List.all_eq_true, List.mem_map, Bool.and_eq_true, decide_eq_true_eq]
          rintro z ⟨j, hj, rfl⟩
          obtain ⟨k, hk⟩ := List.mem_iff_getElem?.mp hj
          have hkl : k < (susp ns hn).length := by rw [← hle]; exact (List.getElem?_eq_some_iff.mp hk).1
          obtain ⟨q1, q2, _⟩ := nd.next k j _ hk (List.getElem?_eq_getElem hkl)
          constructor <;> omega
      have hent : atI (us.map dU) (x.1 : Int) = some (dN ns) := atI_nat rfl (by rw [List.getElem?_map, nd.at_]; rfl)
      simp [dM, Mks.d, e_step_right, -Bool.exists_bool]
      refine ⟨us, bsOf x, m, hn, i', st.length, rfl, hu, by unfold bsOf; simpa using hfl, ?_⟩
      rw [hstep]
      simp [dBl, bsOf, dUs, hent, dN, -Bool.exists_bool]
      refine susp_lc (hn := hn) (by decide) (by simp) (by simp [dN]) (by have := hns.len; omega) ?_
      simp [dP, -Bool.exists_bool]
      rw [zw]
      refine for_map ((susp ns hn).zip x.2) _ (fun k ρ' M' => ∃ rows' y9 y10, ρ' = [some (D.lst (List.map dU us)), some (D.tup (List.map (dBl ∘ bsOf) st)), some (D.tup (List.map D.str hn)), some (D.int l), some (D.adr a), some (D.int i'),
        some (D.tup [D.int x.1, D.tup (List.map (D.int ∘ fun (n : Nat) => (n : Int)) x.2)]), some (D.ins 3 [D.int m.left, D.tup (List.map D.str m.barred)]), some (D.lst (List.map D.str (susp ns hn))), y9, y10] ∧ M' = M.set a (.lst (rows'.map dM)) ∧ RowsOk mk st i' rows' (fun j => ∃ k', k' < k ∧ x.2[k']? = some j)) ?_ ?_ ?_
      · exact ⟨rows, _, _, rfl, rfl, hro.len, fun j m hj => by
          obtain ⟨q1, q2⟩ := hro.at_ j m hj
          refine ⟨q1, ?_⟩
          rcases q2 with q2 | q2 | q2
          · exact .inl q2
          · exact .inr (.inl q2)
          · exact q2.elim⟩
      · rintro k ⟨y, j⟩ ρ' M' hk ⟨rows', y9, y10, rfl, rfl, hro'⟩
        have hz : (susp ns hn)[k]? = some y ∧ x.2[k]? = some j := by
          rw [List.getElem?_zip_eq_some] at hk
          exact hk
        obtain ⟨hy, hj⟩ := hz
        obtain ⟨q1, q2, q3⟩ := nd.next k j y hj hy
        have hjl : j < rows'.length := by rw [hro'.len]; exact q2
        have hjx : j ∈ x.2 := List.mem_of_getElem? hj
        have hnone : rows'[j] = none := by
          cases h : rows'[j] with
          | none => rfl
          | some m' =>
            exfalso
            obtain ⟨_, q⟩ := hro'.at_ j m' (by rw [List.getElem?_eq_getElem hjl, h])
            rcases q with q | ⟨i2, x2, h1, h2, h3⟩ | ⟨k', h1, h2⟩
            · omega
            · have := flat_two b.nod h2 hx h3 hjx; omega
            · have hnd := flat_nd b.nod hx
              have := nd_inj hnd h2 hj
              omega
        have e2 : atI (rows'.map dM) (j : Int) = some .non := atI_nat rfl (by rw [List.getElem?_map, List.getElem?_eq_getElem hjl, hnone]; rfl)
        have hMa' : (M.set a (.lst (rows'.map dM))) a = some (.lst (rows'.map dM)) := Mem.set_same
        have hbar := b.bar i' hil
        simp only [Nat.zero_add] at hbar
        rw [← hm] at hbar
        simp at hbar
        simp [i_adr hMa', e2, e_joined, -Bool.exists_bool]
        refine ⟨by omega, none, m.left - 1, m.barred ++ [y], by simp [dM, dN], by simp; omega, (by intro x h; cases h), ?_⟩
        simp [hMa', Mem.set_set]
        refine ⟨j, ixN_nat rfl hjl, rows'.set j (some ⟨m.left - 1, m.barred ++ [y]⟩), by rw [List.map_set]; rfl, ?_⟩
        refine ⟨by rw [List.length_set]; exact hro'.len, fun j' m' hj' => ?_⟩
        by_cases e : j = j'
        · subst e
          rw [List.getElem?_set_self hjl] at hj'
          cases hj'
          rw [← hm] at q3
          exact ⟨q3.symm, .inr (.inr ⟨k, by omega, hj⟩)⟩
        · rw [List.getElem?_set_ne e] at hj'
          obtain ⟨p1, p2⟩ := hro'.at_ j' m' hj'
          refine ⟨p1, ?_⟩
          rcases p2 with p2 | p2 | ⟨k', h1, h2⟩
          · exact .inl p2
          · exact .inr (.inl p2)
          · exact .inr (.inr ⟨k', by omega, h2⟩)
      · rintro ρ' M' ⟨rows', y9, y10, rfl, rfl, hro'⟩
        exact ⟨rows', _, _, _, _, _, _, by rw [List.map_map]; rfl, rfl, hro'.len, fun j m hj => by
          obtain ⟨p1, p2⟩ := hro'.at_ j m hj
          refine ⟨p1, ?_⟩
          rcases p2 with p2 | ⟨i2, y, h1, h2, h3⟩ | ⟨k', h1, h2⟩
          · exact .inl p2
          · exact .inr (.inl ⟨i2, y, by omega, h2, h3⟩)
          · exact .inr (.inl ⟨i', x, by omega, hx, List.mem_of_getElem? h2⟩)⟩
  · rintro ρ' M' ⟨rows, x5, x6, x7, x8, x9, x10, rfl, rfl, hro⟩
    exact hR2 _ _ M (le_put ha Mem.le_refl) hP
end Sp
end
section
set_option Elab.async false
set_option linter.all false
set_option maxRecDepth 100000
/-! Walks: the law's rows, roots, digits, setting, way. -/
namespace Sp
open PySem L2
theorem d_law_rows : Does n_law_rows 2 b_law_rows p_law_rows := does fun ds M P ⟨ns, k, h1, hl, hk, hP⟩ => by
  subst h1
  refine ⟨rfl, fun R hR _ => ?_⟩
  have hR' := hR _ _ hP
  show wpSs t_law_rows_12 [some (.scr ns), some (.int (k : Nat)), none, none, none] M _
  simp [t_law_rows_12, -Bool.exists_bool]
  intro a ha
  simp [t_law_rows_11, -Bool.exists_bool]
  refine ⟨k, rfl, by omega, ?_⟩
  refine for_map (List.range k) _ (fun i ρ' M' => M' = M.set a (.lst ((rowsS ns i).map D.int)) ∧ ∃ z3 z4, ρ' = [some (.scr ns), some (.int (k : Nat)), some (.adr a), z3, z4]) ⟨rfl, _, _, rfl⟩ ?_ ?_
  · rintro i j ρ' M' hi ⟨rfl, z3, z4, rfl⟩
    have hj : j = i ∧ i < k := by
      obtain ⟨h1, h2⟩ := List.getElem?_eq_some_iff.mp hi
      simp at h1 h2; exact ⟨h2.symm, h1⟩
    obtain ⟨rfl, hjk⟩ := hj
    have hlen : (rowsS ns j).length = j := by simp [rowsS]
    have hrow : (rowsS ns (j + 1)).map D.int = (rowsS ns j).map D.int ++ [.int (cellS ns j)] := by unfold rowsS; rw [List.range_succ]; simp
    have st7 : ∀ c0 : Int, c0 = cell0 ns j → wpSs t_law_rows_7 [some (.scr ns), some (.int (k : Nat)), some (.adr a), some (.int (j : Nat)), some (.int c0)] (M.set a (.lst ((rowsS ns j).map D.int)))
        { nx := fun ρ' M' => M' = M.set a (.lst ((rowsS ns (j + 1)).map D.int)) ∧ ∃ z3 z4, ρ' = [some (.scr ns), some (.int (k : Nat)), some (.adr a), z3, z4], rt := R, bk := fun ρ1 M1 => wpSs t_law_rows_1 ρ1 M1 { nx := fun x M' => R D.non M', rt := R }, ct := fun ρ' M' => M' = M.set a (.lst ((rowsS ns (j + 1)).map D.int)) ∧ ∃ z3 z4, ρ' = [some (.scr ns), some (.int (k : Nat)), some (.adr a), z3, z4] } := by
      intro c0 hc0
      have st5 : ∀ c1 : Int, c1 = cell1 ns j → wpSs t_law_rows_5 [some (.scr ns), some (.int (k : Nat)), some (.adr a), some (.int (j : Nat)), some (.int c1)] (M.set a (.lst ((rowsS ns j).map D.int)))
          { nx := fun ρ' M' => M' = M.set a (.lst ((rowsS ns (j + 1)).map D.int)) ∧ ∃ z3 z4, ρ' = [some (.scr ns), some (.int (k : Nat)), some (.adr a), z3, z4], rt := R, bk := fun ρ1 M1 => wpSs t_law_rows_1 ρ1 M1 { nx := fun x M' => R D.non M', rt := R }, ct := fun ρ' M' => M' = M.set a (.lst ((rowsS ns (j + 1)).map D.int)) ∧ ∃ z3 z4, ρ' = [some (.scr ns), some (.int (k : Nat)), some (.adr a), z3, z4] } := by
        intro c1 hc1
        have st2 : ∀ c : Int, c = cellS ns j → wpSs t_law_rows_2 [some (.scr ns), some (.int (k : Nat)), some (.adr a), some (.int (j : Nat)), some (.int c)] (M.set a (.lst ((rowsS ns j).map D.int)))
            { nx := fun ρ' M' => M' = M.set a (.lst ((rowsS ns (j + 1)).map D.int)) ∧ ∃ z3 z4, ρ' = [some (.scr ns), some (.int (k : Nat)), some (.adr a), z3, z4], rt := R, bk := fun ρ1 M1 => wpSs t_law_rows_1 ρ1 M1 { nx := fun x M' => R D.non M', rt := R }, ct := fun ρ' M' => M' = M.set a (.lst ((rowsS ns (j + 1)).map D.int)) ∧ ∃ z3 z4, ρ' = [some (.scr ns), some (.int (k : Nat)), some (.adr a), z3, z4] } := by
          intro c hc
          have e2 : D.int c = D.int (cellS ns j) := by rw [hc]
          rw [t_law_rows_2, w_scons, w_app]
          refine ⟨_, rfl, ⟨_, _, rfl, Mem.set_same⟩, _, rfl, _, _, rfl, Mem.set_same, by simp [hlen]; omega, ?_, _, _, rfl⟩
          rw [Mem.set_set, hrow, hc]
        have hcell : cellS ns j = if ns.length ≤ j ∨ cell1 ns j < 1000000000 then ((((cell1 ns j + 131 * (j : Int) + 7) * 48271 + (j : Int) * (j : Int) * 69621) % 1000000007 + 17 * (j : Int) + 3) * 2862933555777941757) % 18446744073709551557 else cell1 ns j := rfl
        simp [t_law_rows_5, -Bool.exists_bool]
        by_cases g1 : ns.length ≤ j
        · have g1' : (ns.length : Int) ≤ j := by omega
          rw [if_pos (.inl g1)] at hcell
          simp [g1, g1', t_law_rows_4, t_law_rows_3]
          exact ⟨cm2 (by omega), cm2 (by omega), cm1 (by omega), cm2 (by omega), cm1 (by omega), cm2 (by omega), st2 _ (by rw [hcell, hc1])⟩
        · have g1' : ¬ (ns.length : Int) ≤ j := by omega
          by_cases g2 : c1 < 1000000000
          · rw [if_pos (.inr (by rw [← hc1]; exact g2))] at hcell
            simp [g1, g1', g2, t_law_rows_4, t_law_rows_3]
            exact ⟨cm2 (by omega), cm2 (by omega), cm1 (by omega), cm2 (by omega), cm1 (by omega), cm2 (by omega), st2 _ (by rw [hcell, hc1])⟩
          · rw [if_neg (by rw [← hc1]; exact fun h => h.elim g1 g2)] at hcell
            simp [g1, g1', g2]
            exact st2 _ (by rw [hcell, hc1])
      simp [t_law_rows_7, -Bool.exists_bool]
      by_cases g : c0 < 0
      · simp [g, t_law_rows_6]
        exact ⟨cm1 (by omega), st5 _ (by unfold cell1; rw [← hc0, if_pos g])⟩
      · simp [g]
        exact st5 _ (by unfold cell1; rw [← hc0, if_neg g])
    simp [t_law_rows_10, t_law_rows_9, -Bool.exists_bool]
    by_cases g : 0 < ns.length
    · have g' : (0 : Int) < ns.length := by omega
      have g2 : ns ≠ [] := by intro e; rw [e] at g; exact absurd g (by decide)
      have hmod : (j : Int) % (ns.length : Int) = ((j % ns.length : Nat) : Int) := (Int.natCast_emod j ns.length).symm
      have hml : j % ns.length < ns.length := Nat.mod_lt _ g
      have e1 : atI (ns.map D.int) ((j : Int) % (ns.length : Int)) = some (.int (ns[j % ns.length])) := atI_nat (k := j % ns.length) hmod (by rw [List.getElem?_map, List.getElem?_eq_getElem hml]; rfl)
      simp [g, g', g2, t_law_rows_8, e1]
      exact st7 _ (by unfold cell0; rw [if_pos g, List.getD_eq_getElem?_getD, List.getElem?_eq_getElem hml]; rfl)
    · have g0 : ns = [] := List.length_eq_zero_iff.mp (by omega)
      subst g0
      simp
      exact st7 0 rfl
  · rintro ρ' M' ⟨rfl, z3, z4, rfl⟩
    simp [t_law_rows_1, Mem.set_same, Mem.set_del ha]
    exact hR'
theorem pow2_lt {i : Nat} (h : i ≤ 33) : (2 : Int) ^ i ≤ 2 ^ 33 := by
  have : (2 : Nat) ^ i ≤ 2 ^ 33 := Nat.pow_le_pow_right (by decide) h
  exact_mod_cast this
theorem d_law_root : Does n_law_root 1 b_law_root p_law_root := does fun ds M P ⟨n, h1, h2, h3, hP⟩ => by
  subst h1
  refine ⟨rfl, fun R hR _ => ?_⟩
  have hR' := hR _ _ hP
  simp [b_law_root, n_law_root, -Bool.exists_bool]
  refine ⟨400, rfl, by omega, ?_⟩
  have big : ∀ i : Nat, 33 ≤ i → n < (2 : Int) ^ i * 2 ^ i := fun i hi => by
    have e1 : (2 : Int) ^ 32 ≤ 2 ^ i := by
      have : (2 : Nat) ^ 32 ≤ 2 ^ i := Nat.pow_le_pow_right (by decide) (by omega)
      exact_mod_cast this
    have e2 : (2 : Int) ^ 32 * 2 ^ 32 ≤ 2 ^ i * 2 ^ i := Int.mul_le_mul e1 e1 (by decide) (by omega)
    have e3 : (2 : Int) ^ 32 * 2 ^ 32 = 2 ^ 64 := by decide
    omega
  -- the second loop, from a power of two above the root
  have second : ∀ (m : Nat) (z3 z4 : Option D), m ≤ 33 → n < (2 : Int) ^ m * 2 ^ m → ∃ n_1 : Nat, (400 : Int) = n_1 ∧ n_1 < 4611686018427387904 ∧ forD (.one 3) (.cons (.iff (.cmp .le (.op .sub (.var 2) (.var 1)) (.int 1)) (.cons .brk .nil) .nil) (.cons (.asg 4 (.op .fdiv (.op .add (.var 1) (.var 2)) (.int 2))) (.cons (.iff (.cmp .le (.op .mul (.var 4) (.var 4)) (.var 0)) (.cons (.asg 1 (.var 4)) .nil) (.cons (.asg 2 (.var 4)) .nil)) .nil)))
      { nx := fun ρ1 M1 => ∃ d, ρ1[1]? = some (some d) ∧ R d M1, rt := R } [some (.int n), some (.int 0), some (.int ((2 : Int) ^ m)), z3, z4] ((List.range n_1).map fun (i : Nat) => D.int (i : Int)) M := by
    intro m z3 z4 hm hn
    refine ⟨400, rfl, by omega, ?_⟩
    have hpm := pow2_lt hm
    have fin : ∀ (lo hi : Int), 0 ≤ lo → lo * lo ≤ n → n < hi * hi → lo ≤ hi → hi - lo ≤ 1 → R (.int lo) M := fun lo hi a1 a2 a3 a5 a4 => by
      have e : hi ≤ lo + 1 := by omega
      have : hi * hi ≤ (lo + 1) * (lo + 1) := Int.mul_le_mul e e (by omega) (by omega)
      rw [rd_eq h2 a1 a2 (by omega)]
      exact hR'
    refine for_map (List.range 400) _ (fun i ρ' M' => M' = M ∧ ∃ (lo hi : Int) (z3 z4 : Option D) (j : Nat), ρ' = [some (.int n), some (.int lo), some (.int hi), z3, z4] ∧ 0 ≤ lo ∧ lo * lo ≤ n ∧ n < hi * hi ∧ hi ≤ 2 ^ 33 ∧ hi - lo = 2 ^ j ∧ i + j = m) ⟨rfl, 0, _, _, _, m, rfl, by omega, by simpa using h2, hn, by omega, by simp, by omega⟩ ?_ ?_
    · rintro i k ρ' M' hi ⟨rfl, lo, hi', z3, z4, j, rfl, a1, a2, a3, a4, a5, a6⟩
      have hj1 : (1 : Int) ≤ 2 ^ j := by
        have : (1 : Nat) ≤ 2 ^ j := Nat.one_le_pow _ _ (by decide)
        exact_mod_cast this
      simp [-Bool.exists_bool]
      by_cases c : hi' - lo ≤ 1
      · simp [c]
        exact fin lo hi' a1 a2 a3 (by omega) c
      · cases j with
        | zero => simp at a5; omega
        | succ j =>
          have hp : (2 : Int) ^ (j + 1) = 2 * 2 ^ j := by rw [Int.pow_succ]; omega
          rw [hp] at a5
          have hh : (lo + hi') / 2 = lo + 2 ^ j := by omega
          have hj0 : (1 : Int) ≤ 2 ^ j := by
            have : (1 : Nat) ≤ 2 ^ j := Nat.one_le_pow _ _ (by decide)
            exact_mod_cast this
          simp [c, hh]
          refine ⟨cm1 (by omega), ?_⟩
          by_cases c2 : (lo + 2 ^ j) * (lo + 2 ^ j) ≤ n
          · rw [if_pos c2]
            exact ⟨lo + 2 ^ j, hi', ⟨rfl, rfl⟩, by omega, c2, a3, by omega, j, by omega, by omega⟩
          · rw [if_neg c2]
            exact ⟨lo, lo + 2 ^ j, ⟨rfl, rfl⟩, by omega, a2, by omega, by omega, j, by omega, by omega⟩
    · rintro ρ' M' ⟨rfl, lo, hi', z3, z4, j, rfl, a1, a2, a3, a4, a5, a6⟩
      simp at a6; omega
  refine for_map (List.range 400) _ (fun i ρ' M' => M' = M ∧ ∃ z3 z4, ρ' = [some (.int n), some (.int 0), some (.int ((2 : Int) ^ i)), z3, z4] ∧ (i = 0 ∨ (2 : Int) ^ (i - 1) * 2 ^ (i - 1) ≤ n)) ⟨rfl, _, _, rfl, .inl rfl⟩ ?_ ?_
  · rintro i k ρ' M' hi ⟨rfl, z3, z4, rfl, h4⟩
    have hi33 : i ≤ 33 := by
      rcases h4 with h | h
      · omega
      · refine Nat.le_of_not_lt fun hlt => ?_
        have := big (i - 1) (by omega)
        omega
    have hp := pow2_lt hi33
    have hp0 : (1 : Int) ≤ 2 ^ i := by
      have : (1 : Nat) ≤ 2 ^ i := Nat.one_le_pow _ _ (by decide)
      exact_mod_cast this
    simp [-Bool.exists_bool]
    refine ⟨cm1 (by omega), ?_⟩
    by_cases c : n < (2 : Int) ^ i * 2 ^ i
    · rw [if_pos c]
      exact second i _ _ hi33 c
    · rw [if_neg c]
      refine ⟨cm2 (by omega), by rw [Int.pow_succ], by omega⟩
  · rintro ρ' M' ⟨rfl, z3, z4, rfl, h4⟩
    exfalso
    simp only [List.length_range] at h4
    rcases h4 with h | h
    · omega
    · have := big (400 - 1) (by omega); omega
end Sp
end
section
set_option Elab.async false
set_option linter.all false
set_option maxRecDepth 100000
/-! Walks: the law's values. -/
namespace Sp
open PySem L2
theorem range_map {β : Type} {n : Nat} {L : List β} {d : Nat → β} (h : L.length = n) (hd : ∀ k, k < n → L[k]? = some (d k)) : (List.range n).map d = L := by
  apply List.ext_getElem? 
  intro i
  by_cases hi : i < n
  · rw [List.getElem?_map, List.getElem?_range hi, hd i hi]; rfl
  · rw [List.getElem?_eq_none (by simp; omega), List.getElem?_eq_none (by omega)]
theorem at_pt {p : Pt} {k : Nat} (h : k < p.length) : atI (p.map D.int) (k : Int) = some (.int (p.getD k 0)) := atI_nat rfl (by rw [List.getElem?_map, List.getElem?_eq_getElem h, List.getD_eq_getElem?_getD, List.getElem?_eq_getElem h]; rfl)
theorem at_bx {b : Bx} {k : Nat} (h : k < b.length) : atI (b.map dS) (k : Int) = some (dS (b.getD k (0, 0))) := atI_nat rfl (by rw [List.getElem?_map, List.getElem?_eq_getElem h, List.getD_eq_getElem?_getD, List.getElem?_eq_getElem h]; rfl)
theorem minus_at {a b : Pt} {n k : Nat} (ha : a.length = n) (hb : b.length = n) (hk : k < n) : (minusS a b)[k]? = some (a.getD k 0 - b.getD k 0) := by
  have h1 : k < a.length := by omega
  have h2 : k < b.length := by omega
  simp [minusS, List.getD_eq_getElem?_getD, h1, h2, zip_at h1 h2]
theorem minus_range {a b : Pt} {n : Nat} (ha : a.length = n) (hb : b.length = n) : (List.range n).map (fun k => a.getD k 0 - b.getD k 0) = minusS a b := range_map (minus_n ha hb) fun k hk => minus_at ha hb hk
theorem sq2_sum {p q : Pt} {n : Nat} (hp : p.length = n) (hq : q.length = n) : ((List.range n).map fun k => (p.getD k 0 - q.getD k 0) * (p.getD k 0 - q.getD k 0)).sum = sq2 p q := by
  have : (List.range n).map (fun k => (p.getD k 0 - q.getD k 0) * (p.getD k 0 - q.getD k 0)) = ((List.range n).map (fun k => p.getD k 0 - q.getD k 0)).map fun x => x * x := by rw [List.map_map]; rfl
  rw [this, minus_range hp hq]
  unfold sq2
  have key : ∀ v : Pt, (v.map fun x => x * x).sum = dotS v v := by
    intro v
    unfold dotS
    induction v with
    | nil => rfl
    | cons x v ih => simp [ih]
  exact key _
theorem d_law_square : Does n_law_square 2 b_law_square p_law_square := does fun ds M P ⟨a, b, p, q, h1, ha, hb, hl, hl10, bp, bq, hP⟩ => by
  subst h1
  refine ⟨rfl, fun R hR _ => ?_⟩
  have hR' := hR _ _ hP
  have hln : ∀ Q : D → Mem → Prop, Q (.int p.length) M → biD .len [a] M Q := fun Q hQ => by
    cases a <;> first | exact ⟨_, ha, by simpa using hQ⟩ | cases ha
  simp [b_law_square, n_law_square, -Bool.exists_bool]
  refine hln _ ?_
  refine ⟨p.length, rfl, by omega, ?_⟩
  refine lc_map (List.range p.length) _ (fun k => .int ((p.getD k 0 - q.getD k 0) * (p.getD k 0 - q.getD k 0))) (by rw [List.length_range]; omega) (fun Ma hle k hk => ?_) ?_
  · have hk' : k < p.length := by simpa using hk
    have ia : itemsOf Ma a = some (p.map D.int) := by
      cases a with
      | adr x =>
        simp only [itemsOf, lstOf] at ha ⊢
        cases e : M x with
        | none => rw [e] at ha; cases ha
        | some d => rw [e] at ha; rw [hle _ _ e]; exact ha
      | _ => exact ha
    have ib : itemsOf Ma b = some (q.map D.int) := by
      cases b with
      | adr x =>
        simp only [itemsOf, lstOf] at hb ⊢
        cases e : M x with
        | none => rw [e] at hb; cases hb
        | some d => rw [e] at hb; rw [hle _ _ e]; exact hb
      | _ => exact hb
    have e1 := at_pt hk'
    have e2 := at_pt (p := q) (k := k) (by omega)
    have b1 : -1000000 ≤ p.getD k 0 ∧ p.getD k 0 ≤ 1000000 := by
      rw [List.getD_eq_getElem?_getD, List.getElem?_eq_getElem hk']
      exact bp _ (List.getElem_mem hk')
    have b2 : -1000000 ≤ q.getD k 0 ∧ q.getD k 0 ≤ 1000000 := by
      have hk2 : k < q.length := by omega
      rw [List.getD_eq_getElem?_getD, List.getElem?_eq_getElem hk2]
      exact bq _ (List.getElem_mem hk2)
    simp only [T_one, wipe1, wipe0, b_one, w_op, w_idx, w_var]
    intro E hE
    refine ⟨_, rfl, _, rfl, _, rfl, _, ia, _, e1, _, rfl, _, rfl, _, rfl, _, ib, _, e2, ?_⟩
    refine ⟨_, rfl, _, rfl, _, rfl, _, ia, _, e1, _, rfl, _, rfl, _, rfl, _, ib, _, e2, ?_⟩
    exact ⟨cm1 (by omega), hE⟩
  · have e : ((List.range p.length).map fun k => D.int ((p.getD k 0 - q.getD k 0) * (p.getD k 0 - q.getD k 0))) = ((List.range p.length).map fun k => (p.getD k 0 - q.getD k 0) * (p.getD k 0 - q.getD k 0)).map D.int := by rw [List.map_map]; rfl
    rw [e]
    refine bi_sum ?_
    rw [sq2_sum rfl hl.symm]
    exact hR'
theorem d_law_at : Does n_law_at 2 b_law_at p_law_at := does fun ds M P ⟨n, s, w, t, h1, hn, hw, ht, hP⟩ => by
  subst h1
  refine ⟨rfl, fun R hR _ => ?_⟩
  have hR' := hR _ _ hP
  have htu := hw.turn
  have hpl := hw.len
  show wpSs t_law_at_9 [some w.d, some (.int t), none, none, none, none, none, none, none, none, none, none, none, none] M _
  simp [t_law_at_9, Way.d, -Bool.exists_bool]
  simp [t_law_at_8, t_law_at_7, t_law_at_6, t_law_at_5, -Bool.exists_bool]
  have main : ∀ (g : Pt) (rt : Int) (z12 z13 : Option D), g.length = n → Bd 3 g → -2 ≤ rt ∧ rt ≤ 2 → g = (if t - w.turn < 0 then w.first else w.second) → rt = (if t - w.turn < 0 then w.early else w.late) →
      wpSs t_law_at_2 [some (.tup [dL w.place, .int w.clock, .int w.turn, dL w.first, dL w.second, .int w.early, .int w.late]), some (.int t), some (dL w.place), some (.int w.clock), some (.int w.turn), some (dL w.first), some (dL w.second), some (.int w.early), some (.int w.late), some (.int (t - w.turn)), some (dL g), some (.int rt), z12, z13] M
        { nx := fun x M' => R D.non M', rt := R } := by
    intro g rt z12 z13 hg bg brt eg er
    simp [t_law_at_2, dL, -Bool.exists_bool]
    refine ⟨w.place.length, rfl, by omega, ?_⟩
    refine lc_map (List.range w.place.length) _ (fun k => .int (w.place.getD k 0 + g.getD k 0 * (t - w.turn))) (by rw [List.length_range]; omega) (fun Ma hle k hk => ?_) ?_
    · have hk' : k < w.place.length := by simpa using hk
      have hkg : k < g.length := by omega
      have e1 := at_pt hk'
      have e2 := at_pt hkg
      have b1 : -3 ≤ g.getD k 0 ∧ g.getD k 0 ≤ 3 := by
        rw [List.getD_eq_getElem?_getD, List.getElem?_eq_getElem hkg]
        exact bg _ (List.getElem_mem hkg)
      simp only [List.getD_eq_getElem?_getD] at e1 e2 b1 ⊢
      simp [e1, e2]
      intro E hE
      exact ⟨cm1 (by omega), hE⟩
    · simp [t_law_at_1]
      refine ⟨cm1 (by omega), by omega, ?_⟩
      have e : dL (plS w t ++ [ckS w t]) = .lst (((List.range w.place.length).map fun k => D.int (w.place.getD k 0 + g.getD k 0 * (t - w.turn))) ++ [.int (w.clock + rt * (t - w.turn))]) := by
        unfold dL plS ckS
        rw [← eg, ← er]; simp
      rw [e] at hR'
      simpa using hR'
  by_cases c : t - w.turn < 0
  · simp [c, t_law_at_4, t_law_at_3]
    exact main _ _ _ _ hw.lf hw.bf hw.be (by rw [if_pos c]) (by rw [if_pos c])
  · simp [c]
    exact main _ _ _ _ hw.ls hw.bs hw.bl (by rw [if_neg c]) (by rw [if_neg c])
end Sp
end
section
set_option Elab.async false
set_option linter.all false
set_option maxRecDepth 100000
/-! Walks: the law's values of a kind. -/
namespace Sp
open PySem L2
theorem sqs (v : Pt) : (v.map fun x => x * x).sum = dotS v v := by
  unfold dotS
  induction v with
  | nil => rfl
  | cons x v ih => simp [ih]
theorem sq_lc {ρ : Rho} {M : Mem} {Q : D → Mem → Prop} {v : Pt} {i : Nat} {K : Int} (hi : i < ρ.length) (hl : v.length ≤ 1000) (hb : Bd K v) (hK : K < 2 ^ 60) (hQ : Q (.int (dotS v v)) M) :
    lcD (.op .mul (.var i) (.var i)) (.one i) (.bl true) false ρ (fun d M1 => biD .sum [d] M1 Q) (v.map D.int) M := by
  refine lc_map v _ (fun x => .int (x * x)) (by omega) (fun Ma hle x hx => ?_) ?_
  · have := hb x hx
    have h1 : ((ρ.set i none).set i (some (D.int x)))[i]? = some (some (D.int x)) := List.getElem?_set_self (by simpa using hi)
    simp only [T_one, wipe1, wipe0, b_one, w_op, w_var, h1]
    intro E hE
    exact ⟨_, rfl, _, rfl, cm1 (by omega), hE⟩
  · have e : (v.map fun x => D.int (x * x)) = (v.map fun x => x * x).map D.int := by rw [List.map_map]; rfl
    rw [e]
    refine bi_sum ?_
    rw [sqs]; exact hQ
theorem dot_range {a b : Pt} {n : Nat} (ha : a.length = n) (hb : b.length = n) : ((List.range n).map fun k => a.getD k 0 * b.getD k 0).sum = dotS a b := by
  have : (List.range n).map (fun k => a.getD k 0 * b.getD k 0) = (a.zip b).map fun q => q.1 * q.2 := by
    refine range_map (by simp [ha, hb]) fun k hk => ?_
    have h1 : k < a.length := by omega
    have h2 : k < b.length := by omega
    simp [List.getD_eq_getElem?_getD, h1, h2, zip_at h1 h2]
  rw [this]; rfl
theorem getD_bd {p : Pt} {K : Int} {k : Nat} (h : Bd K p) (hk : k < p.length) : -K ≤ p.getD k 0 ∧ p.getD k 0 ≤ K := by
  rw [List.getD_eq_getElem?_getD, List.getElem?_eq_getElem hk]
  exact h _ (List.getElem_mem hk)
theorem d_law_piece : Does n_law_piece 3 b_law_piece p_law_piece := does fun ds M P ⟨n, p, a, t, h1, hn, hl, hp, ha, ht, hP⟩ => by
  subst h1
  refine ⟨rfl, fun R hR _ => ?_⟩
  have hR' := hR _ _ hP
  obtain ⟨v, u, e, lv, lu, le, r, w, vv, ee⟩ := piece_ok hn hl hp ha ht
  have hal := ha.len
  have htl := ht.len
  show wpSs t_law_piece_10 [some (dL p), some (dP a), some (dP t), none, none, none, none, none, none, none] M _
  simp [t_law_piece_10, dP, -Bool.exists_bool]
  refine ⟨a.length, rfl, by omega, ?_⟩
  refine lc_map (List.range a.length) _ (fun k => .int (t.getD k 0 - a.getD k 0)) (by rw [List.length_range]; omega) (fun Ma hle k hk => ?_) ?_
  · have hk' : k < a.length := by simpa using hk
    have e1 := at_pt hk'
    have e2 := at_pt (p := t) (k := k) (by omega)
    simp only [List.getD_eq_getElem?_getD] at e1 e2 ⊢
    simp [e1, e2]
  · have hu : ((List.range a.length).map fun k => D.int (t.getD k 0 - a.getD k 0)) = (minusS t a).map D.int := by
      rw [← minus_range (n := n) htl hal, hal, List.map_map]; rfl
    rw [hu]
    simp [t_law_piece_9, dL, -Bool.exists_bool]
    refine ⟨a.length, rfl, by omega, ?_⟩
    refine lc_map (List.range a.length) _ (fun k => .int (p.getD k 0 - a.getD k 0)) (by rw [List.length_range]; omega) (fun Ma hle k hk => ?_) ?_
    · have hk' : k < a.length := by simpa using hk
      have e1 := at_pt hk'
      have e2 := at_pt (p := p) (k := k) (by omega)
      simp only [List.getD_eq_getElem?_getD] at e1 e2 ⊢
      simp [e1, e2]
    · have hv : ((List.range a.length).map fun k => D.int (p.getD k 0 - a.getD k 0)) = (minusS p a).map D.int := by
        rw [← minus_range (n := n) hl hal, hal, List.map_map]; rfl
      rw [hv]
      simp [t_law_piece_8, -Bool.exists_bool]
      refine sq_lc (K := 200) (by simp) (by omega) u (by decide) ?_
      simp [t_law_piece_7, -Bool.exists_bool]
      refine ⟨a.length, rfl, by omega, ?_⟩
      refine lc_map (List.range a.length) _ (fun k => .int ((minusS p a).getD k 0 * (minusS t a).getD k 0)) (by rw [List.length_range]; omega) (fun Ma hle k hk => ?_) ?_
      · have hk' : k < a.length := by simpa using hk
        have e1 := at_pt (p := minusS p a) (k := k) (by omega)
        have e2 := at_pt (p := minusS t a) (k := k) (by omega)
        have b2 := getD_bd (k := k) u (by omega)
        simp only [List.getD_eq_getElem?_getD] at e1 e2 b2 ⊢
        simp [e1, e2]
        intro E hE
        exact ⟨cm2 (by omega), hE⟩
      · have e : ((List.range a.length).map fun k => D.int ((minusS p a).getD k 0 * (minusS t a).getD k 0)) = ((List.range a.length).map fun k => (minusS p a).getD k 0 * (minusS t a).getD k 0).map D.int := by rw [List.map_map]; rfl
        rw [e]
        refine bi_sum ?_
        rw [dot_range (n := a.length) (by omega) (by omega)]
        unfold pieceS at hR'
        have hsq : ∀ (b : Pt) (Q : D → Mem → Prop), b.length = n → POk n b → Q (.int (dotS (minusS p b) (minusS p b))) M → e_law_square.sem [.lst (p.map D.int), .tup (b.map D.int)] M Q := fun b Q hb1 hb2 hQ =>
          ⟨_, _, p, b, rfl, rfl, rfl, by omega, by omega, hp, hb2.b6, hQ⟩
        simp [t_law_piece_6, -Bool.exists_bool]
        by_cases c1 : dotS (minusS p a) (minusS t a) ≤ 0
        · rw [if_pos c1] at hR'
          simp [c1, t_law_piece_5]
          refine hsq a _ hal ha ?_
          exact hsq a _ hal ha hR'
        · rw [if_neg c1] at hR'
          simp [c1, t_law_piece_4, -Bool.exists_bool]
          by_cases c2 : dotS (minusS t a) (minusS t a) ≤ dotS (minusS p a) (minusS t a)
          · rw [if_pos c2] at hR'
            simp [c2, t_law_piece_3]
            refine hsq t _ htl ht ?_
            exact hsq t _ htl ht hR'
          · rw [if_neg c2] at hR'
            simp [c2, t_law_piece_2, -Bool.exists_bool]
            refine sq_lc (K := 2000000) (by simp) (by omega) v (by decide) ?_
            simp [t_law_piece_1]
            refine ⟨cm2 (by omega), cm1 (by omega), ⟨by omega, by omega⟩, ?_⟩
            simpa [dS] using hR'
theorem d_law_boxes : Does n_law_boxes 2 b_law_boxes p_law_boxes := does fun ds M P ⟨n, p, os, h1, hn, hl, hp, hne, ho, hP⟩ => by
  subst h1
  refine ⟨rfl, fun R hR _ => ?_⟩
  have hR' := hR _ _ hP
  simp [b_law_boxes, n_law_boxes, dL, dBs, -Bool.exists_bool]
  refine for_map os _ (fun i ρ' M' => M' = M ∧ ∃ (z3 z4 z5 z6 : Option D) (b : Int), ρ' = [some (.lst (p.map D.int)), some (.tup (os.map dB)), some (.int b), z3, z4, z5, z6] ∧ (i = 0 → b = -1) ∧ (0 < i → b = minL ((os.take i).map fun o => nearS p o) ∧ 0 ≤ b)) ⟨rfl, _, _, _, _, -1, rfl, fun _ => rfl, fun h => by omega⟩ ?_ ?_
  · rintro i o ρ' M' hi ⟨rfl, z3, z4, z5, z6, b, rfl, hb0, hb1⟩
    have hoo := ho o (List.mem_of_getElem? hi)
    have hol := hoo.len
    simp [dB, -Bool.exists_bool]
    refine ⟨p.length, rfl, by omega, ?_⟩
    refine for_map (List.range p.length) _ (fun k ρ' M'' => M'' = M' ∧ ∃ (z5 z6 : Option D), ρ' = [some (.lst (p.map D.int)), some (.tup (os.map fun o => .tup (o.map dS))), some (.int b), some (.tup (o.map dS)), some (.int (accS (fun q => gap q.1 q.2 * gap q.1 q.2) (p.zip o) k)), z5, z6]) ⟨rfl, _, _, rfl⟩ ?_ ?_
    · rintro k k' ρ' M'' hk ⟨rfl, z5, z6, rfl⟩
      have hkk : k' = k ∧ k < p.length := by
        obtain ⟨h1, h2⟩ := List.getElem?_eq_some_iff.mp hk
        simp at h1 h2; exact ⟨h2.symm, h1⟩
      obtain ⟨rfl, hkp⟩ := hkk
      have hko : k' < o.length := by omega
      have e1 := at_pt hkp
      have e2 := at_bx hko
      have hz := acc1 (f := fun q => gap q.1 q.2 * gap q.1 q.2) (zip_at hkp hko)
      have e3 : p.getD k' 0 = p[k'] := by rw [List.getD_eq_getElem?_getD, List.getElem?_eq_getElem hkp]; rfl
      have e4 : o.getD k' (0, 0) = o[k'] := by rw [List.getD_eq_getElem?_getD, List.getElem?_eq_getElem hko]; rfl
      rw [e3] at e1
      rw [e4] at e2
      have hg := gap_bd (hp _ (List.getElem_mem hkp)) (hoo.bd _ (List.getElem_mem hko))
      simp [e1, e2, dS, hz]
      change CMul (gap p[k'] o[k']) (gap p[k'] o[k']) ∧ gap p[k'] o[k'] * gap p[k'] o[k'] = gap p[k'] o[k'] * gap p[k'] o[k']
      exact ⟨cm1 (by omega), rfl⟩
    · rintro ρ' M'' ⟨rfl, z5, z6, rfl⟩
      have hlz : (List.range p.length).length = (p.zip o).length := by rw [List.length_range, List.length_zip, hol]; omega
      rw [hlz, accN]
      have hn' : ((p.zip o).map fun q => gap q.1 q.2 * gap q.1 q.2).sum = nearS p o := rfl
      rw [hn']
      have hnn := near_bd6 (by omega) hl hp hoo
      have htk : (os.take (i + 1)).map (fun o => nearS p o) = (os.take i).map (fun o => nearS p o) ++ [nearS p o] := by rw [List.take_add_one, hi]; simp
      have hmin : ∀ (L : List Int) (x : Int), L ≠ [] → minL (L ++ [x]) = min (minL L) x := by
        intro L x hL
        cases L with
        | nil => exact absurd rfl hL
        | cons y L => show (L ++ [x]).foldl min y = min (L.foldl min y) x; rw [List.foldl_append]; rfl
      simp [-Bool.exists_bool]
      rcases Nat.eq_zero_or_pos i with h0 | h0
      · have hb := hb0 h0
        subst h0
        simp [hb]
        have e0 : (os.take (0 + 1)).map (fun o => nearS p o) = [nearS p o] := by rw [htk]; simp
        refine ⟨_, _, _, _, _, ⟨fun _ _ => rfl, rfl, rfl, rfl, rfl, rfl⟩, ?_, hnn.1⟩
        rw [← List.map_take]
        have e0 : (os.take 1).map (fun o => nearS p o) = [nearS p o] := e0
        rw [e0]; rfl
      · obtain ⟨hb, hb2⟩ := hb1 h0
        have hne' : (os.take i).map (fun o => nearS p o) ≠ [] := by
          intro e
          rw [List.map_eq_nil_iff, List.take_eq_nil_iff] at e
          rcases e with e | e
          · omega
          · exact hne e
        have hm : minL ((os.take (i + 1)).map fun o => nearS p o) = min b (nearS p o) := by rw [htk, hmin _ _ hne', ← hb]
        rw [← List.map_take, hm, if_neg (by omega)]
        by_cases c : nearS p o < b
        · rw [if_pos c]
          exact ⟨_, _, _, _, _, ⟨fun _ _ => rfl, rfl, rfl, rfl, rfl, rfl⟩, by omega, by omega⟩
        · rw [if_neg c]
          exact ⟨_, _, _, _, _, ⟨fun _ _ => rfl, rfl, rfl, rfl, rfl, rfl⟩, by omega, by omega⟩
  · rintro ρ' M' ⟨rfl, z3, z4, z5, z6, b, rfl, hb0, hb1⟩
    have hpos : 0 < os.length := List.length_pos_iff.mpr hne
    obtain ⟨hb, _⟩ := hb1 hpos
    rw [List.take_length] at hb
    subst hb
    simp
    exact hR'
theorem os_map2 {n : Nat} {os : List Bx} {f : Bx → Int} (h0 : os ≠ []) (h : ∀ o ∈ os, 0 ≤ f o ∧ f o ≤ 16000000000000) : 0 ≤ minL (os.map f) ∧ minL (os.map f) ≤ 16000000000000 := by
  have hne : os.map f ≠ [] := by intro e; exact h0 (List.map_eq_nil_iff.mp e)
  obtain ⟨o, ho, e⟩ := List.mem_map.mp (minL_spec hne).1
  exact ⟨by rw [← e]; exact (h o ho).1, by rw [← e]; exact (h o ho).2⟩
theorem d_law_value : Does n_law_value 3 b_law_value p_law_value := does fun ds M P ⟨n, k, p, c, h1, hn, hl, hp, hk, hP⟩ => by
  subst h1
  refine ⟨rfl, fun R hR _ => ?_⟩
  have hR' := hR _ _ hP
  show wpSs t_law_value_15 [some k.d, some (dL p), some (.int c), none, none, none, none, none, none, none] M _
  have hsq : ∀ (b : Pt) (Q : D → Mem → Prop), POk n b → (0 ≤ sq2 p b → sq2 p b ≤ 16000000000000 → Q (.int (sq2 p b)) M) → e_law_square.sem [dL p, dP b] M Q := fun b Q hb hQ => by
    refine ⟨_, _, p, b, rfl, rfl, rfl, by rw [hb.len]; exact hl, by omega, hp, hb.b6, hQ (dot_nn _) ?_⟩
    have hb2 : Bd 2000000 (minusS p b) := (minus_bd hp hb.bd).mono (by omega)
    have := (dot_bd (by rw [minus_len]; omega) hb2 hb2 (by decide) (by decide)).2
    unfold sq2; omega
  cases hk with
  | @side d hd hz =>
    simp only [valS] at hR'
    have hdl := hd.len
    simp [t_law_value_15, Kind.d, dL, dP, -Bool.exists_bool]
    simp [t_law_value_14, -Bool.exists_bool]
    refine ⟨p.length, rfl, by omega, ?_⟩
    refine lc_map (List.range p.length) _ (fun k => .int (d.getD k 0 * p.getD k 0)) (by rw [List.length_range]; omega) (fun Ma hle k hk => ?_) ?_
    · have hk' : k < p.length := by simpa using hk
      have e1 := at_pt hk'
      have e2 := at_pt (p := d) (k := k) (by omega)
      have b2 := getD_bd (k := k) hd.bd (by omega)
      simp only [List.getD_eq_getElem?_getD] at e1 e2 b2 ⊢
      simp [e1, e2]
      intro E hE
      exact ⟨cm1 (by omega), hE⟩
    · have e : ((List.range p.length).map fun k => D.int (d.getD k 0 * p.getD k 0)) = ((List.range p.length).map fun k => d.getD k 0 * p.getD k 0).map D.int := by rw [List.map_map]; rfl
      rw [e]
      refine bi_sum ?_
      rw [dot_range (n := p.length) (by omega) rfl]
      simp [t_law_value_13]
      simpa [dS] using hR'
  | @piece a t ha ht =>
    simp only [valS] at hR'
    have o := piece_ok hn hl hp ha ht
    have hpb := piece_bd o (dot_cs hl ha.len ht.len)
    simp [t_law_value_15, Kind.d, -Bool.exists_bool]
    simp [t_law_value_12, t_law_value_11, e_law_piece, -Bool.exists_bool]
    refine ⟨n, p, a, t, rfl, hn, hl, hp, ha, ht, ?_⟩
    simp [dS, t_law_value_10, e_law_root, e_law_up]
    refine ⟨_, rfl, hpb.1.1, by omega, ?_⟩
    simp
    refine ⟨_, rfl, hpb.2.1, by omega, ?_⟩
    simpa [dS] using hR'
  | @boxes os h0 h16 ho =>
    simp only [valS] at hR'
    have o1 := os_map2 (n := n) (f := fun o => nearS p o) h0 (fun o h => near_bd6 (by omega) hl hp (ho o h))
    simp [t_law_value_15, Kind.d, -Bool.exists_bool]
    simp [t_law_value_12, t_law_value_9, t_law_value_8, e_law_boxes, -Bool.exists_bool]
    refine ⟨n, p, os, rfl, hn, hl, hp, h0, ho, ?_⟩
    simp [t_law_value_7, e_law_root, e_law_up]
    refine ⟨_, rfl, o1.1, by omega, ?_⟩
    simp
    refine ⟨_, rfl, o1.1, by omega, ?_⟩
    simpa [dS] using hR'
  | @range a ha =>
    simp only [valS] at hR'
    simp [t_law_value_15, Kind.d, -Bool.exists_bool]
    simp [t_law_value_12, t_law_value_9, t_law_value_6, -Bool.exists_bool]
    refine hsq a _ ha fun s1 s2 => ?_
    simp [t_law_value_5, t_law_value_2, -Bool.exists_bool]
    refine ⟨cm2 (by omega), ?_⟩
    simp [t_law_value_1, e_law_root, e_law_up]
    refine ⟨_, rfl, s1, by omega, ?_⟩
    simp
    refine ⟨_, rfl, s1, by omega, ?_⟩
    simpa [dS] using hR'
  | @clocked a ha =>
    simp only [valS] at hR'
    simp [t_law_value_15, Kind.d, -Bool.exists_bool]
    simp [t_law_value_12, t_law_value_9, t_law_value_6, -Bool.exists_bool]
    refine hsq a _ ha fun s1 s2 => ?_
    simp [t_law_value_5, t_law_value_2, -Bool.exists_bool]
    refine ⟨cm2 (by omega), ?_⟩
    simp [t_law_value_1, e_law_root, e_law_up]
    refine ⟨_, rfl, s1, by omega, ?_⟩
    simp
    refine ⟨_, rfl, s1, by omega, ?_⟩
    simpa [dS] using hR'
  | @differ a b ha hb =>
    simp only [valS] at hR'
    simp [t_law_value_15, Kind.d, -Bool.exists_bool]
    simp [t_law_value_12, t_law_value_9, t_law_value_6, -Bool.exists_bool]
    refine hsq a _ ha fun s1 s2 => ?_
    simp [t_law_value_5, t_law_value_4, -Bool.exists_bool]
    refine hsq b _ hb fun s3 s4 => ?_
    simp [t_law_value_3, e_law_root, e_law_up]
    refine ⟨_, rfl, s1, by omega, ?_⟩
    simp
    refine ⟨_, rfl, s3, by omega, ?_⟩
    simp
    refine ⟨_, rfl, s1, by omega, ?_⟩
    simp
    refine ⟨_, rfl, s3, by omega, ?_⟩
    simpa [dS] using hR'
end Sp
end
section
set_option Elab.async false
set_option linter.all false
set_option maxRecDepth 100000
/-! Walks: the law's digits, setting, way. -/
namespace Sp
open PySem L2
theorem d_law_up : Does n_law_up 1 b_law_up p_law_up := does fun ds M P ⟨n, h1, h2, h3, hP⟩ => by
  subst h1
  refine ⟨rfl, fun R hR _ => ?_⟩
  have hR' := hR _ _ hP
  have hb := rd_bd h2 h3
  simp [b_law_up, n_law_up, e_law_root, -Bool.exists_bool]
  refine ⟨n, rfl, h2, h3, ?_⟩
  simp
  refine ⟨cm1 (by omega), ?_⟩
  unfold ru at hR'
  split <;> simp_all
theorem mod_bd (x : Int) {m : Int} (h : 0 < m) : 0 ≤ x % m ∧ x % m < m := ⟨Int.emod_nonneg x (by omega), Int.emod_lt_of_pos x h⟩
theorem d_law_digits : Does n_law_digits 3 b_law_digits p_law_digits := does fun ds M P ⟨r, b, k, h1, hb, hb2, hk, hP⟩ => by
  subst h1
  refine ⟨rfl, fun R hR _ => ?_⟩
  simp [b_law_digits, n_law_digits, -Bool.exists_bool]
  intro a ha
  refine ⟨k, rfl, by omega, ?_⟩
  refine for_map (List.range k) _ (fun i ρ' M' => ∃ (xs : List Int) (r : Int) (z : Option D), M' = M.set a (.lst (xs.map D.int)) ∧ ρ' = [some (.int r), some (.int b), some (.int (k : Nat)), some (.adr a), z] ∧ xs.length = i ∧ ∀ x ∈ xs, 0 ≤ x ∧ x < b) ⟨[], r, _, rfl, rfl, rfl, by simp⟩ ?_ ?_
  · rintro i j ρ' M' hi ⟨xs, r, z, rfl, rfl, hl, hx⟩
    have hik : i < k := by
      obtain ⟨h1, h2⟩ := List.getElem?_eq_some_iff.mp hi
      simpa using h1
    simp [Mem.set_same, Mem.set_set]
    refine ⟨hb, by omega, ⟨hb, by omega⟩, xs ++ [r % b], by simp, by simp [hl], ?_⟩
    intro x hx'
    rcases List.mem_append.mp hx' with h | h
    · exact hx x h
    · rw [List.mem_singleton] at h; subst h; exact mod_bd r hb
  · rintro ρ' M' ⟨xs, r, z, rfl, rfl, hl, hx⟩
    simp [Mem.set_same, Mem.set_del ha]
    exact hR _ _ (hP xs (by simpa using hl) hx)
theorem d_law_setting : Does n_law_setting 1 b_law_setting p_law_setting := does fun ds M P ⟨r, h1, hP⟩ => by
  subst h1
  refine ⟨rfl, fun R hR _ => ?_⟩
  have m1 := mod_bd r (m := 2) (by decide)
  have m2 := mod_bd (r / 2) (m := 9) (by decide)
  have m3 := mod_bd (r / 18) (m := 3) (by decide)
  have m4 := mod_bd (r / 54) (m := 3) (by decide)
  have ok : SOk (2 + r % 2).toNat ⟨2 + r % 2, r / 2 % 9, r / 18 % 3, 1 + r / 54 % 3⟩ := ⟨by omega, by show 2 + r % 2 = _; omega, by show 0 ≤ r / 2 % 9 ∧ r / 2 % 9 ≤ 8; omega, by show 0 ≤ r / 18 % 3 ∧ r / 18 % 3 ≤ 2; omega, by show 1 ≤ 1 + r / 54 % 3 ∧ 1 + r / 54 % 3 ≤ 3; omega⟩
  simp [b_law_setting, n_law_setting, e_Setting, -Bool.exists_bool]
  exact ⟨⟨2 + r % 2, r / 2 % 9, r / 18 % 3, 1 + r / 54 % 3⟩, rfl, ⟨_, ok⟩, hR _ _ (hP _ _ ok)⟩
theorem sqP_zero {v : Pt} (h : ∀ x ∈ v, x = 0) : sqP v = 0 := by
  unfold sqP dotS
  have key : ∀ l : List (Int × Int), (∀ q ∈ l, q.1 = 0) → (l.map fun q => q.1 * q.2).sum = 0 := by
    intro l
    induction l with
    | nil => intro _; rfl
    | cons q l ih =>
      intro h
      rw [List.map_cons, List.sum_cons, h q (by simp), ih fun q hq => h q (by simp [hq])]; simp
  exact key _ fun q hq => h _ (List.of_mem_zip (a := q.1) (b := q.2) hq).1
theorem sqP_sum (v : Pt) : (v.map fun x => x * x).sum = sqP v := by
  unfold sqP dotS
  induction v with
  | nil => rfl
  | cons x v ih => simp [ih]
theorem d_law_velocity : Does n_law_velocity 2 b_law_velocity p_law_velocity := does fun ds M P ⟨n, s, r, h1, hs, hP⟩ => by
  subst h1
  refine ⟨rfl, fun R hR _ => ?_⟩
  have hd := hs.dims
  have n23 := hs.n23
  have hsp := hs.speed
  have hpr := hs.per
  simp [b_law_velocity, n_law_velocity, e_law_digits, Stg.d, -Bool.exists_bool]
  refine ⟨r, 7, n, by rw [hd], by omega, by omega, by omega, fun xs hl hx => ?_⟩
  simp [dL, -Bool.exists_bool]
  refine lc_map xs _ (fun x => .int (x - 3)) (by omega) (fun Ma hle x hx' => ?_) ?_
  · simp
  · refine ⟨8, rfl, by omega, ?_⟩
    have hfin : ∀ v : Pt, v.length = n → Bd 3 v → s.per * s.per * sqP v ≤ s.speed * s.speed → R (.lst (v.map D.int)) M := fun v a b c => hR _ _ (hP v a b c)
    refine for_map (List.range 8) _ (fun i ρ' M' => M' = M ∧ ∃ (v : Pt) (z3 z4 z5 z6 : Option D), ρ' = [some (.ins 0 [.int s.dims, .int s.speed, .int s.drift, .int s.per]), some (.int r), some (.lst (v.map D.int)), z3, z4, z5, z6] ∧ v.length = n ∧ Bd 3 v ∧ (1 ≤ i → Bd 1 v) ∧ (2 ≤ i → ∀ x ∈ v, x = 0)) ?_ ?_ ?_
    · refine ⟨rfl, xs.map fun x => x - 3, _, _, _, _, by rw [List.map_map]; rfl, by simp [hl], ?_, by omega, by omega⟩
      intro x hx'
      obtain ⟨y, hy, rfl⟩ := List.mem_map.mp hx'
      have := hx y hy; omega
    · rintro i k ρ' M' hi ⟨rfl, v, z3, z4, z5, z6, rfl, a1, a2, a3, a4⟩
      simp [-Bool.exists_bool]
      refine lc_map v _ (fun x => .int (x * x)) (by omega) (fun Ma hle x hx' => ?_) ?_
      · have := a2 x hx'
        simp
        intro E hE
        exact ⟨cm1 (by omega), hE⟩
      · have e : (v.map fun x => D.int (x * x)) = (v.map fun x => x * x).map D.int := by rw [List.map_map]; rfl
        rw [e]
        refine bi_sum ?_
        rw [sqP_sum]
        have hpp := mul_bd (x := s.per) (y := s.per) (K := 3) (L := 3) (by omega) (by omega) (by decide) (by decide)
        simp [-Bool.exists_bool]
        refine ⟨cm1 (by omega), cm1 (by omega), cm1 (by omega), ?_⟩
        by_cases c : s.per * s.per * sqP v ≤ s.speed * s.speed
        · rw [if_pos c]
          exact hfin v a1 a2 c
        · rw [if_neg c]
          have hstep : ∀ x : Int, absI x / 2 * (1 - 2 * (if x < 0 then 1 else 0)) = if x < 0 then -(-x / 2) else x / 2 := fun x => by
            unfold absI; split <;> omega
          refine lc_map v _ (fun x => .int (absI x / 2 * (1 - 2 * (if x < 0 then 1 else 0)))) (by omega) (fun Ma hle x hx' => ?_) ?_
          · have := a2 x hx'
            have hab : absI x / 2 ≤ 1 ∧ 0 ≤ absI x / 2 := by unfold absI; omega
            simp
            intro E hE
            exact ⟨cm1 (by omega), cm1 (by omega), hE⟩
          · refine ⟨rfl, v.map fun x => absI x / 2 * (1 - 2 * (if x < 0 then 1 else 0)), by rw [List.map_map]; rfl, by simp [a1], ?_, ?_, fun h2 => ?_⟩
            · intro x hx'
              obtain ⟨y, hy, rfl⟩ := List.mem_map.mp hx'
              have := a2 y hy
              rw [hstep]; split <;> omega
            · intro x hx'
              obtain ⟨y, hy, rfl⟩ := List.mem_map.mp hx'
              have := a2 y hy
              rw [hstep]; split <;> omega
            · intro x hx'
              obtain ⟨y, hy, rfl⟩ := List.mem_map.mp hx'
              have := a3 h2 y hy
              rw [hstep]; split <;> omega
    · rintro ρ' M' ⟨rfl, v, z3, z4, z5, z6, rfl, a1, a2, a3, a4⟩
      have h0 := a4 (by simp)
      simp
      refine hfin v a1 a2 ?_
      rw [sqP_zero h0, Int.mul_zero]
      exact (sq_bd (x := s.speed) (K := 8) ⟨by omega, hsp.2⟩).1
end Sp
end
section
set_option Elab.async false
set_option linter.all false
set_option maxRecDepth 100000
/-! Walks: the law's way, kinds, readings. -/
namespace Sp
open PySem L2
theorem d_law_way : Does n_law_way 2 b_law_way p_law_way := does fun ds M P ⟨n, s, rs, h1, hs, hl, hP⟩ => by
  subst h1
  refine ⟨rfl, fun R hR _ => ?_⟩
  obtain ⟨r0, r1, r2, rfl⟩ : ∃ r0 r1 r2, rs = [r0, r1, r2] := by
    match rs, hl with
    | [a, b, c], _ => exact ⟨a, b, c, rfl⟩
  have hd := hs.dims
  have n23 := hs.n23
  have hdr := hs.drift
  have hpr := hs.per
  have sl0 : 0 ≤ s.drift / s.per := Int.ediv_nonneg hdr.1 (by omega)
  have sl1 : (s.drift / s.per) * s.per ≤ s.drift := Int.ediv_mul_le _ (by omega)
  have sl2 : s.drift / s.per ≤ 2 := Int.le_trans (Int.ediv_le_self _ hdr.1) hdr.2
  have mw : ∀ x : Int, -(s.drift / s.per) ≤ x % (2 * (s.drift / s.per) + 1) - s.drift / s.per ∧ x % (2 * (s.drift / s.per) + 1) - s.drift / s.per ≤ s.drift / s.per := fun x => by
    have := mod_bd x (m := 2 * (s.drift / s.per) + 1) (by omega)
    omega
  have mwp : ∀ x : Int, -(s.drift / s.per) ≤ x ∧ x ≤ s.drift / s.per → s.per * absI x ≤ s.drift := fun x hx => by
    have h : absI x ≤ s.drift / s.per := by unfold absI; omega
    have := Int.mul_le_mul_of_nonneg_left h (show 0 ≤ s.per by omega)
    have e : s.per * (s.drift / s.per) = s.drift / s.per * s.per := Int.mul_comm _ _
    omega
  show wpSs t_law_way_7 [some s.d, some (dL [r0, r1, r2]), none, none, none, none, none, none, none] M _
  simp [t_law_way_7, dL, Stg.d, e_law_digits, -Bool.exists_bool]
  refine ⟨r0, 31, n, by rw [hd], by omega, by omega, by omega, fun xs hl hx => ?_⟩
  simp [dL, -Bool.exists_bool]
  refine lc_map xs _ (fun x => .int (x - 15)) (by omega) (fun Ma hle x hx' => ?_) ?_
  · simp
  · simp [t_law_way_6, -Bool.exists_bool]
    refine ⟨⟨by omega, by omega⟩, ?_⟩
    simp [t_law_way_5, t_law_way_4, -Bool.exists_bool]
    generalize hsl : s.drift / s.per = sl at *
    refine ⟨cm1 (by omega), by omega, cm1 (by omega), by omega, ?_⟩
    simp [t_law_way_3, e_law_velocity, -Bool.exists_bool]
    refine ⟨n, s, _, rfl, hs, fun v1 a1 a2 a3 => ?_⟩
    simp [t_law_way_2, e_law_velocity, -Bool.exists_bool]
    refine ⟨n, s, _, rfl, hs, fun v2 b1 b2 b3 => ?_⟩
    simp [t_law_way_1]
    have g1 := mod_bd (r1 / 256) (m := 9) (by decide)
    have g2 := mod_bd (r1 / 4096) (m := 9) (by decide)
    have w1 := mw r1
    have w2 := mw (r1 / 16)
    have := hR _ _ (hP ⟨xs.map fun x => x - 15, r1 / 256 % 9 - 4, r1 / 4096 % 9 - 4, v1, v2, r1 % (2 * sl + 1) - sl, r1 / 16 % (2 * sl + 1) - sl⟩ ⟨by simp [hl], fun x hx' => by
      obtain ⟨y, hy, rfl⟩ := List.mem_map.mp hx'
      have := hx y hy; omega, by simp only []; omega, by simp only []; omega, a1, b1, a2, b2, a3, b3, by simp only []; omega, by simp only []; omega, mwp _ w1, mwp _ w2⟩)
    simp [Way.d, dL] at this
    simp [dL]
    exact this
theorem d_law_point : Does n_law_point 2 b_law_point p_law_point := does fun ds M P ⟨n, r, h1, hn, hP⟩ => by
  subst h1
  refine ⟨rfl, fun R hR _ => ?_⟩
  simp [b_law_point, n_law_point, e_law_digits, -Bool.exists_bool]
  refine ⟨r, 41, n, rfl, by omega, by omega, by omega, fun xs hl hx => ?_⟩
  simp [dL, -Bool.exists_bool]
  refine lc_map xs _ (fun x => .int (x - 20)) (by omega) (fun Ma hle x hx' => ?_) ?_
  · simp
  · rw [bi_tupL]
    have := hR _ _ (hP (xs.map fun x => x - 20) (by simp [hl]) (fun x hx' => by
      obtain ⟨y, hy, rfl⟩ := List.mem_map.mp hx'
      have := hx y hy; omega))
    unfold dP at this
    rw [List.map_map] at this
    exact this
theorem mv_ok {n : Nat} {p sh : Pt} (hp : p.length = n) (hb : Bd 40 p) (hs : sh.length = n) (hsb : Bd 10 sh) : POk n (mvP p sh) := by
  refine ⟨by rw [mvP_len]; exact hp, fun x hx => ?_⟩
  obtain ⟨k, hk, rfl⟩ := List.mem_map.mp hx
  have hk : k < p.length := by simpa using hk
  have b1 := getD_bd hb hk
  have b2 := getD_bd (k := k) hsb (by omega)
  omega
theorem mvB_ok {n : Nat} {b : Bx} {sh : Pt} (hp : b.length = n) (hb : BdB 100 b) (hs : sh.length = n) (hsb : Bd 10 sh) : BOk n (mvB b sh) := by
  refine ⟨by simp [mvB, hp], fun x hx => ?_⟩
  obtain ⟨k, hk, rfl⟩ := List.mem_map.mp hx
  have hk : k < b.length := by simpa using hk
  have b2 := getD_bd (k := k) hsb (by omega)
  have b1 := hb (b.getD k (0, 0)) (by rw [List.getD_eq_getElem?_getD, List.getElem?_eq_getElem hk]; exact List.getElem_mem hk)
  simp only []; omega
theorem pt_ok {n : Nat} {p : Pt} (hp : p.length = n) (hb : Bd 20 p) : POk n p := ⟨hp, hb.mono (by omega)⟩
theorem safe_boxes {n : Nat} {os : List Bx} (h0 : os ≠ []) (h16 : os.length ≤ 16) (h : ∀ o ∈ os, o.length = n ∧ BdB 100 o) : KSafe n (.boxes os) := by
  refine ⟨.boxes h0 h16 fun o ho => ⟨(h o ho).1, fun q hq => by have := (h o ho).2 q hq; omega⟩, fun sh hs hsb => .boxes (by intro e; exact h0 (List.map_eq_nil_iff.mp e)) (by simpa using h16) fun o ho => ?_⟩
  obtain ⟨o', ho', rfl⟩ := List.mem_map.mp ho
  exact mvB_ok (h o' ho').1 (h o' ho').2 hs hsb
theorem zsum : ∀ l : List Int, (l.map fun _ => (0 : Int)).sum = 0
  | [] => rfl
  | x :: l => by rw [List.map_cons, List.sum_cons, zsum l]; rfl
theorem d_law_kind : Does n_law_kind 2 b_law_kind p_law_kind := does fun ds M P ⟨n, r, h1, n23, hP⟩ => by
  subst h1
  refine ⟨rfl, fun R hR hR2 => ?_⟩
  have n3 : n ≤ 3 := by omega
  show wpSs t_law_kind_17 [some (.int (n : Nat)), some (.int r), none, none, none, none, none, none, none, none, none] M _
  simp [t_law_kind_17, t_law_kind_16, -Bool.exists_bool]
  have hm := mod_bd r (m := 6) (by decide)
  have nm : ∃ k : Nat, r % 6 = (k : Int) ∧ k < 6 := ⟨(r % 6).toNat, by omega, by omega⟩
  obtain ⟨k, hk, hk6⟩ := nm
  have one : ∀ (x : Str), (x = "range" ∨ x = "clocked") → atI [D.str "range", .str "clocked", .str "differ", .str "side", .str "piece", .str "boxes"] (r % 6) = some (.str x) → (∀ p : Pt, p.length = n → Bd 20 p → R (.tup [.str x, dP p]) M) →
      ∃ d, atI [D.str "range", .str "clocked", .str "differ", .str "side", .str "piece", .str "boxes"] (r % 6) = some d ∧ wpSs t_law_kind_15 [some (.int (n : Nat)), some (.int r), some (.lst [.str "range", .str "clocked", .str "differ", .str "side", .str "piece", .str "boxes"]), some d, none, none, none, none, none, none, none] M { nx := fun x M' => R D.non M', rt := R } := by
    intro x hx hat hRx
    refine ⟨_, hat, ?_⟩
    rcases hx with rfl | rfl
    · simp [t_law_kind_15, t_law_kind_14, -Bool.exists_bool]
      simp [t_law_kind_9, t_law_kind_3, t_law_kind_1, e_law_point, -Bool.exists_bool]
      exact ⟨n, _, rfl, n3, fun p h1 h2 => hRx p h1 h2⟩
    · simp [t_law_kind_15, t_law_kind_14, -Bool.exists_bool]
      simp [t_law_kind_9, t_law_kind_3, t_law_kind_1, e_law_point, -Bool.exists_bool]
      exact ⟨n, _, rfl, n3, fun p h1 h2 => hRx p h1 h2⟩
  have two : ∀ (x : Str), (x = "differ" ∨ x = "piece") → atI [D.str "range", .str "clocked", .str "differ", .str "side", .str "piece", .str "boxes"] (r % 6) = some (.str x) → (∀ p q : Pt, p.length = n → Bd 20 p → q.length = n → Bd 20 q → R (.tup [.str x, dP p, dP q]) M) →
      ∃ d, atI [D.str "range", .str "clocked", .str "differ", .str "side", .str "piece", .str "boxes"] (r % 6) = some d ∧ wpSs t_law_kind_15 [some (.int (n : Nat)), some (.int r), some (.lst [.str "range", .str "clocked", .str "differ", .str "side", .str "piece", .str "boxes"]), some d, none, none, none, none, none, none, none] M { nx := fun x M' => R D.non M', rt := R } := by
    intro x hx hat hRx
    refine ⟨_, hat, ?_⟩
    rcases hx with rfl | rfl
    · simp [t_law_kind_15, t_law_kind_14, -Bool.exists_bool]
      simp [t_law_kind_9, t_law_kind_3, t_law_kind_2, e_law_point, -Bool.exists_bool]
      refine ⟨n, _, rfl, n3, fun p h1 h2 => ?_⟩
      simp
      exact ⟨n, _, rfl, n3, fun q h3 h4 => hRx p q h1 h2 h3 h4⟩
    · simp [t_law_kind_15, t_law_kind_14, -Bool.exists_bool]
      simp [t_law_kind_9, t_law_kind_3, t_law_kind_2, e_law_point, -Bool.exists_bool]
      refine ⟨n, _, rfl, n3, fun p h1 h2 => ?_⟩
      simp
      exact ⟨n, _, rfl, n3, fun q h3 h4 => hRx p q h1 h2 h3 h4⟩
  match k, hk6, hk with
  | 0, _, hk => exact one "range" (.inl rfl) (by rw [hk]; exact atI_nat (k := 0) rfl rfl) fun p h1 h2 => hR _ _ (hP (.range p) ⟨.range (pt_ok h1 h2), fun sh a b => .range (mv_ok h1 (h2.mono (by omega)) a b)⟩)
  | 1, _, hk => exact one "clocked" (.inr rfl) (by rw [hk]; exact atI_nat (k := 1) rfl rfl) fun p h1 h2 => hR _ _ (hP (.clocked p) ⟨.clocked (pt_ok h1 h2), fun sh a b => .clocked (mv_ok h1 (h2.mono (by omega)) a b)⟩)
  | 2, _, hk => exact two "differ" (.inl rfl) (by rw [hk]; exact atI_nat (k := 2) rfl rfl) fun p q h1 h2 h3 h4 => hR _ _ (hP (.differ p q) ⟨.differ (pt_ok h1 h2) (pt_ok h3 h4), fun sh a b => .differ (mv_ok h1 (h2.mono (by omega)) a b) (mv_ok h3 (h4.mono (by omega)) a b)⟩)
  | 4, _, hk => exact two "piece" (.inr rfl) (by rw [hk]; exact atI_nat (k := 4) rfl rfl) fun p q h1 h2 h3 h4 => hR _ _ (hP (.piece p q) ⟨.piece (pt_ok h1 h2) (pt_ok h3 h4), fun sh a b => .piece (mv_ok h1 (h2.mono (by omega)) a b) (mv_ok h3 (h4.mono (by omega)) a b)⟩)
  | 3, _, hk =>
    refine ⟨_, by rw [hk]; exact atI_nat (k := 3) rfl rfl, ?_⟩
    simp [t_law_kind_15, t_law_kind_14, -Bool.exists_bool]
    simp [t_law_kind_13, e_law_digits, -Bool.exists_bool]
    refine ⟨_, 9, n, rfl, by omega, by omega, by omega, fun xs hl hx => ?_⟩
    simp [dL, -Bool.exists_bool]
    refine lc_mapM xs _ (fun x => .int (x - 4)) (by omega) (fun Ma hle x hx' => ?_) ?_
    · simp
    · intro a ha
      simp [t_law_kind_12, Mem.set_same, -Bool.exists_bool]
      have e0 : (xs.map fun x => D.int (x - 4)) = (xs.map fun x => x - 4).map D.int := by rw [List.map_map]; rfl
      rw [e0]
      have hvl : (xs.map fun x => x - 4).length = n := by simp [hl]
      have hvb : Bd 20 (xs.map fun x => x - 4) := fun x hx' => by
        obtain ⟨y, hy, rfl⟩ := List.mem_map.mp hx'
        have := hx y hy; omega
      generalize (xs.map fun x => x - 4) = v at *
      refine lc_map v _ (fun x => .int (absI x)) (by omega) (fun Ma hle x hx' => ?_) ?_
      · simp
      · have e : (v.map fun x => D.int (absI x)) = (v.map fun x => absI x).map D.int := by rw [List.map_map]; rfl
        rw [e]
        refine bi_sum ?_
        have fin : ∀ v : Pt, v.length = n → Bd 20 v → (∃ x ∈ v, x ≠ 0) → ∀ M' : Mem, M' = M.set a (.lst (v.map D.int)) → R (.tup [.str "side", dP v]) M' := fun v a1 a2 a3 M' hM' => by
          subst hM'
          refine hR2 _ _ M (le_set ha) (hP (.side v) ⟨.side (pt_ok a1 a2) a3, fun sh _ _ => .side (pt_ok a1 a2) a3⟩)
        have absz : ∀ l : Pt, (∀ x ∈ l, x = 0) ∨ ∃ x ∈ l, x ≠ 0 := fun l => by
          rcases Classical.em (∃ x ∈ l, x ≠ 0) with h | h
          · exact .inr h
          · exact .inl fun x hx => Classical.byContradiction fun hne => h ⟨x, hx, hne⟩
        have abss : ∀ l : Pt, 0 ≤ (l.map fun x => absI x).sum ∧ ((∃ x ∈ l, x ≠ 0) → 0 < (l.map fun x => absI x).sum) := by
          intro l
          induction l with
          | nil => simp
          | cons y l ih =>
            rw [List.map_cons, List.sum_cons]
            have hy : 0 ≤ absI y := by unfold absI; omega
            refine ⟨by omega, ?_⟩
            rintro ⟨x, hx, hne⟩
            rcases List.mem_cons.mp hx with e | hx
            · subst e
              have : 0 < absI x := by unfold absI; omega
              omega
            · have := ih.2 ⟨x, hx, hne⟩; omega
        simp [-Bool.exists_bool]
        by_cases c : (v.map fun x => absI x).sum = 0
        · simp [c, t_law_kind_11, Mem.set_same]
          have hpos : 0 < v.length := by omega
          refine ⟨0, ixN_nat (k := 0) rfl hpos, ?_⟩
          rw [Mem.set_set]
          have es : (v.map D.int).set 0 (.int 1) = (v.set 0 1).map D.int := by rw [List.map_set]
          rw [es]
          simp [t_law_kind_10, bi_tupA Mem.set_same]
          have := fin (v.set 0 1) (by simp [hvl]) (fun x hx' => by
            rcases List.mem_or_eq_of_mem_set hx' with h | h
            · exact hvb x h
            · subst h; omega) ⟨1, by
              refine List.mem_of_getElem? (i := 0) ?_
              rw [List.getElem?_set_self hpos], by decide⟩ _ rfl
          simpa [dP] using this
        · simp [c, t_law_kind_10, bi_tupA Mem.set_same]
          rcases absz v with h | h
          · exfalso
            apply c
            have : (v.map fun x => absI x) = v.map fun _ => 0 := List.map_congr_left fun x hx => by rw [h x hx]; rfl
            rw [this]
            exact zsum v
          · have := fin v hvl hvb h _ rfl
            simpa [dP] using this
  | 5, _, hk =>
    refine ⟨_, by rw [hk]; exact atI_nat (k := 5) rfl rfl, ?_⟩
    simp [t_law_kind_15, t_law_kind_14, -Bool.exists_bool]
    simp [t_law_kind_9, t_law_kind_8, -Bool.exists_bool]
    intro a ha
    simp [t_law_kind_7, -Bool.exists_bool]
    have m2 := mod_bd (r / 6) (m := 2) (by decide)
    refine ⟨(1 + r / 6 % 2).toNat, by omega, by omega, ?_⟩
    refine for_map (List.range (1 + r / 6 % 2).toNat) _ (fun i ρ' M' => ∃ (os : List Bx) (z5 z6 z7 z9 z10 : Option D), ρ' = [some (.int (n : Nat)), some (.int r), some (.lst [.str "range", .str "clocked", .str "differ", .str "side", .str "piece", .str "boxes"]), some (.str "boxes"), some (.int (r / 6)), z5, z6, z7, some (.adr a), z9, z10] ∧
      M' = M.set a (.lst (os.map dB)) ∧ os.length = i ∧ ∀ o ∈ os, o.length = n ∧ BdB 100 o) ⟨[], _, _, _, _, _, rfl, rfl, rfl, by simp⟩ ?_ ?_
    · rintro i j ρ' M' hi ⟨os, z5, z6, z7, z9, z10, rfl, rfl, hl, ho⟩
      have hij : i < (1 + r / 6 % 2).toNat := by
        obtain ⟨h1, h2⟩ := List.getElem?_eq_some_iff.mp hi
        simpa using h1
      simp [t_law_kind_6, e_law_point, -Bool.exists_bool]
      refine ⟨cm1 (by omega), n, _, rfl, n3, fun p h1 h2 => ?_⟩
      simp [t_law_kind_5, Mem.set_same, dP, -Bool.exists_bool]
      have m7 := mod_bd (r / 6 / 5) (m := 7) (by decide)
      refine lc_map p _ (fun x => dS (x, x + r / 6 / 5 % 7)) (by omega) (fun Ma hle x hx' => ?_) ?_
      · simp [dS]
      · simp [Mem.set_same, Mem.set_set]
        refine ⟨by omega, os ++ [p.map fun x => (x, x + r / 6 / 5 % 7)], by simp [dB]; rfl, by simp [hl], ?_⟩
        intro o hoo
        rcases List.mem_append.mp hoo with h | h
        · exact ho o h
        · rw [List.mem_singleton] at h
          subst h
          refine ⟨by simp [h1], fun q hq => ?_⟩
          obtain ⟨x, hx, rfl⟩ := List.mem_map.mp hq
          have := h2 x hx
          simp only []; omega
    · rintro ρ' M' ⟨os, z5, z6, z7, z9, z10, rfl, rfl, hl, ho⟩
      simp only [List.length_range] at hl
      simp [t_law_kind_4, bi_tupA Mem.set_same]
      refine hR2 _ _ M (le_set ha) ?_
      exact hP (.boxes os) (safe_boxes (by intro e; rw [e] at hl; simp at hl; omega) (by omega) ho)
end Sp
end
section
set_option Elab.async false
set_option linter.all false
set_option maxRecDepth 100000
/-! Walks: spans, what is given. -/
namespace Sp
open PySem L2
theorem cut_lo1 {x : D} {xs : List D} : cutA (x :: xs) (some 1) none = xs := by
  have := cut_loN (xs := x :: xs) (k := 1) (i := 1) rfl (by simp)
  rw [this]; rfl
theorem os_map {n : Nat} {os : List Bx} {f : Bx → Int} (h0 : os ≠ []) (h : ∀ o ∈ os, 0 ≤ f o ∧ f o ≤ 16000000000000) : os.map f ≠ [] ∧ 0 ≤ minL (os.map f) ∧ minL (os.map f) ≤ 16000000000000 := by
  have hne : os.map f ≠ [] := by intro e; exact h0 (List.map_eq_nil_iff.mp e)
  obtain ⟨o, ho, e⟩ := List.mem_map.mp (minL_spec hne).1
  exact ⟨hne, by rw [← e]; exact (h o ho).1, by rw [← e]; exact (h o ho).2⟩
set_option maxHeartbeats 2000000 in
theorem d_span : Does n_span 2 b_span p_span := does fun ds M P ⟨n, k, b, h1, hn, hk, hb, hP⟩ => by
  subst h1
  refine ⟨rfl, fun R hR _ => ?_⟩
  have hR' := hR _ _ hP
  have eb := at_lastB hb
  have ec : ∀ b : Bx, (List.map dS b).dropLast = (b.dropLast).map dS := fun b => by rw [List.map_dropLast]
  have hdl := hb.dl
  cases hk with
  | @range p hp =>
    simp [b_span, n_span, dB, Kind.d, e_distances, cut_last, ec, spanS, -Bool.exists_bool, -List.map_dropLast] at hR' ⊢
    exact ⟨n, p, b.dropLast, rfl, hn, hp, hdl, hR'⟩
  | @clocked p hp =>
    simp [b_span, n_span, dB, Kind.d, e_distances, cut_last, ec, spanS, -Bool.exists_bool, -List.map_dropLast] at hR' ⊢
    refine ⟨n, p, b.dropLast, rfl, hn, hp, hdl, ?_⟩
    simp [dS, eb]
    simpa [dS] using hR'
  | @differ p q hp hq =>
    simp [b_span, n_span, dB, Kind.d, e_distances, cut_last, ec, spanS, -Bool.exists_bool, -List.map_dropLast] at hR' ⊢
    refine ⟨n, p, b.dropLast, rfl, hn, hp, hdl, ?_⟩
    simp [dS, -List.map_dropLast]
    refine ⟨n, q, b.dropLast, by simp [dB, dS, List.map_dropLast], hn, hq, hdl, ?_⟩
    simp [dS]
    simpa [dS] using hR'
  | @side d hd hz =>
    simp [b_span, n_span, dB, Kind.d, e_side_span, cut_last, ec, spanS, -Bool.exists_bool, -List.map_dropLast] at hR' ⊢
    exact ⟨n, d, b.dropLast, rfl, hn, hd, hdl, hR'⟩
  | @piece a t ha ht =>
    have hm := hb.mid
    have o := piece_ok hn hm.1 hm.2 ha ht
    have hpb := piece_bd o (dot_cs hm.1 ha.len ht.len)
    simp [b_span, n_span, Kind.d, e_from_piece, e_middle, e_root_down, e_root_up, e_radius, spanS, -Bool.exists_bool] at hR' ⊢
    refine ⟨_, rfl, by rw [hb.len]; omega, ?_⟩
    simp [dP, cut_last, -Bool.exists_bool]
    refine ⟨n, (mid b).dropLast, a, t, by simp [dP], hn, hm.1, hm.2, ha, ht, ?_⟩
    simp [dS, -Bool.exists_bool]
    refine ⟨_, rfl, hpb.1.1, by omega, ?_⟩
    simp
    refine ⟨n, b, rfl, hn, hb, ?_⟩
    simp
    refine ⟨_, rfl, hpb.2.1, by omega, ?_⟩
    simp
    refine ⟨n, b, rfl, hn, hb, ?_⟩
    simpa [dS] using hR'
  | @boxes os h0 h16 ho =>
    have o1 := os_map (n := n) (f := fun o => betw b.dropLast o) h0 (fun o h => betw_bd (by omega) hdl (ho o h))
    have o2 := os_map (n := n) (f := fun o => grF b.dropLast o) h0 (fun o h => grF_bd (by omega) hdl (ho o h))
    simp [b_span, n_span, dB, dBs, Kind.d, e_between, e_root_down, e_root_up, e_greatest_from, cut_last, ec, spanS, -Bool.exists_bool, -List.map_dropLast] at hR' ⊢
    refine lc_map os _ (fun o => .int (betw b.dropLast o)) (by omega) (fun Ma hl o ho' => ?_) ?_
    · simp [-List.map_dropLast]
      intro E hE
      exact ⟨n, b.dropLast, o, rfl, hn, hdl, ho o ho', hE⟩
    · have e : (os.map fun o => D.int (betw b.dropLast o)) = (os.map fun o => betw b.dropLast o).map D.int := by rw [List.map_map]; rfl
      rw [e]
      refine bi_min o1.1 ?_
      refine ⟨_, rfl, o1.2.1, by omega, ?_⟩
      refine lc_map os _ (fun o => .int (grF b.dropLast o)) (by omega) (fun Ma hl o ho' => ?_) ?_
      · simp [-List.map_dropLast]
        intro E hE
        exact ⟨n, b.dropLast, o, rfl, hn, hdl, ho o ho', hE⟩
      · have e : (os.map fun o => D.int (grF b.dropLast o)) = (os.map fun o => grF b.dropLast o).map D.int := by rw [List.map_map]; rfl
        rw [e]
        refine bi_min o2.1 ?_
        exact ⟨_, rfl, o2.2.1, by omega, by simpa [dS] using hR'⟩
theorem d_is_name : Does n_is_name 1 b_is_name p_is_name := does fun ds M P ⟨x, h1, hx, hP⟩ => by
  subst h1
  refine ⟨rfl, fun R hR _ => ?_⟩
  have hR' := hR _ _ hP
  have key : ∀ x ∈ names5, x.length ≤ 100 ∧ 1 ≤ x.length ∧ x.length ≤ 64 ∧ ((x.cps.toList).all fun c => inStr ⟨#[c]⟩ "abcdefghijklmnopqrstuvwxyz0123456789_-") = true ∧ x.cps.toList.length ≤ 100 := by decide +kernel
  obtain ⟨k0, k1, k2, k3, k4⟩ := key x hx
  simp [b_is_name, n_is_name, gval, biD, walked, signs, -Bool.exists_bool]
  refine ⟨by omega, ?_⟩
  have e1 : (1 : Int) ≤ x.length := by omega
  have e2 : (x.length : Int) ≤ 64 := by omega
  simp [e1, e2]
  refine lc_map x.cps.toList _ (fun c => .bl (inStr ⟨#[c]⟩ "abcdefghijklmnopqrstuvwxyz0123456789_-")) (by omega) (fun Ma hl o ho' => ?_) ?_
  · simp [gval]
  · exact ⟨(x.cps.toList.map fun c => inStr ⟨#[c]⟩ "abcdefghijklmnopqrstuvwxyz0123456789_-"), by simp, by
      have : ((x.cps.toList.map fun c => inStr ⟨#[c]⟩ "abcdefghijklmnopqrstuvwxyz0123456789_-").all id) = true := by rw [List.all_map]; exact k3
      rw [this]; exact hR'⟩
theorem all_true {L : List Bool} (h : ∀ b ∈ L, b = true) : L.all id = true := by rw [List.all_eq_true]; exact fun x hx => by simp [h x hx]
theorem d_in_room : Does n_in_room 1 b_in_room p_in_room := does fun ds M P ⟨p, h1, hl, hp, hP⟩ => by
  subst h1
  refine ⟨rfl, fun R hR _ => ?_⟩
  simp [b_in_room, n_in_room, dP, gval, -Bool.exists_bool]
  refine lc_map p _ (fun _ => .bl true) (by omega) (fun Ma hl x hx => ?_) ?_
  · have := hp x hx
    have h1 : -1000000000000 ≤ x := by omega
    have h2 : x ≤ 1000000000000 := by omega
    simp [gval, h1, h2, -Bool.exists_bool]
  · have e : (p.map fun _ => D.bl true) = (p.map fun _ => true).map D.bl := by rw [List.map_map]; rfl
    rw [e]
    refine bi_all ?_
    rw [all_true (by simp)]
    exact hR _ _ hP
theorem d_box_in_room : Does n_box_in_room 1 b_box_in_room p_box_in_room := does fun ds M P ⟨p, h1, hl, hp, hP⟩ => by
  subst h1
  refine ⟨rfl, fun R hR _ => ?_⟩
  simp [b_box_in_room, n_box_in_room, dB, gval, -Bool.exists_bool]
  refine lc_map p _ (fun _ => .bl true) (by omega) (fun Ma hl x hx => ?_) ?_
  · have := hp x hx
    have h1 : -1000000000000 ≤ x.1 := by omega
    have h2 : x.1 ≤ x.2 := by omega
    have h3 : x.2 ≤ 1000000000000 := by omega
    simp [gval, dS, h1, h2, h3, -Bool.exists_bool]
  · have e : (p.map fun _ => D.bl true) = (p.map fun _ => true).map D.bl := by rw [List.map_map]; rfl
    rw [e]
    refine bi_all ?_
    rw [all_true (by simp)]
    exact hR _ _ hP
theorem d_kind_in_bounds : Does n_kind_in_bounds 1 b_kind_in_bounds p_kind_in_bounds := does fun ds M P ⟨n, k, h1, hn, hk, hP⟩ => by
  subst h1
  refine ⟨rfl, fun R hR _ => ?_⟩
  have hR' := hR _ _ hP
  have pts : ∀ (Q : D → Mem → Prop) (ps : List Pt) (ρ : Rho), (∀ p ∈ ps, POk n p) → ps.length ≤ 2 → Q (.bl true) M → ρ.length = 4 → lcD (.call e_in_room (.cons (.var 3) .nil) .nil) (.one 3) (.bl true) false ρ (fun d M1 => biD .all [d] M1 Q) (ps.map dP) M := by
    intro Q ps ρ hps hl hQ hρ
    refine lc_map ps _ (fun _ => .bl true) (by omega) (fun Ma hl p hp => ?_) ?_
    · have := hps p hp
      simp [e_in_room, hρ]
      intro E hE
      exact ⟨p, rfl, by rw [this.len]; omega, this.bd.mono (by omega), hE⟩
    · have e : (ps.map fun _ => D.bl true) = (ps.map fun _ => true).map D.bl := by rw [List.map_map]; rfl
      rw [e]
      refine bi_all ?_
      rw [all_true (by simp)]
      exact hQ
  cases hk with
  | @range p hp =>
    simp [b_kind_in_bounds, n_kind_in_bounds, Kind.d, kinds4, cut_lo1, -Bool.exists_bool]
    exact pts _ [p] _ (by simpa using hp) (by simp) hR' rfl
  | @clocked p hp =>
    simp [b_kind_in_bounds, n_kind_in_bounds, Kind.d, kinds4, cut_lo1, -Bool.exists_bool]
    exact pts _ [p] _ (by simpa using hp) (by simp) hR' rfl
  | @differ p q hp hq =>
    simp [b_kind_in_bounds, n_kind_in_bounds, Kind.d, kinds4, cut_lo1, -Bool.exists_bool]
    exact pts _ [p, q] _ (by simp [hp, hq]) (by simp) hR' rfl
  | @piece p q hp hq =>
    simp [b_kind_in_bounds, n_kind_in_bounds, Kind.d, kinds4, cut_lo1, -Bool.exists_bool]
    exact pts _ [p, q] _ (by simp [hp, hq]) (by simp) hR' rfl
  | @side d hd hz =>
    simp [b_kind_in_bounds, n_kind_in_bounds, Kind.d, dP, -Bool.exists_bool]
    refine lc_map d _ (fun _ => .bl true) (by rw [hd.len]; omega) (fun Ma hl x hx => ?_) ?_
    · have := hd.bd x hx
      have h2 : absI x ≤ 1000 := by unfold absI; omega
      simp [gval, h2]
    · have e : (d.map fun _ => D.bl true) = (d.map fun _ => true).map D.bl := by rw [List.map_map]; rfl
      rw [e]
      refine bi_all ?_
      rw [all_true (by simp)]
      simp
      refine lc_map d _ (fun x => .bl (!decide (x = 0))) (by rw [hd.len]; omega) (fun Ma hl x hx => ?_) ?_
      · simp
      · have e : (d.map fun x => D.bl (!decide (x = 0))) = (d.map fun x => !decide (x = 0)).map D.bl := by rw [List.map_map]; rfl
        rw [e]
        refine bi_any ?_
        have : (d.map fun x => !decide (x = 0)).any id = true := by
          rw [List.any_map, List.any_eq_true]
          obtain ⟨x, h1, h2⟩ := hz
          exact ⟨x, h1, by simpa using h2⟩
        rw [this]
        exact hR'
  | @boxes os h0 h16 ho =>
    have hl : 0 < os.length := List.length_pos_iff.mpr h0
    have e1 : (1 : Int) ≤ os.length := by omega
    have e2 : (os.length : Int) ≤ 16 := by omega
    simp [b_kind_in_bounds, n_kind_in_bounds, Kind.d, dBs, gval, e1, e2, -Bool.exists_bool]
    refine lc_map os _ (fun _ => .bl true) (by omega) (fun Ma hl o hm => ?_) ?_
    · have := ho o hm
      simp [e_box_in_room]
      intro E hE
      exact ⟨o, rfl, by rw [this.len]; omega, this.bd, hE⟩
    · have e : (os.map fun _ => D.bl true) = (os.map fun _ => true).map D.bl := by rw [List.map_map]; rfl
      rw [e]
      refine bi_all ?_
      rw [all_true (by simp)]
      exact hR'
end Sp
end
section
set_option Elab.async false
set_option linter.all false
set_option maxRecDepth 100000
/-! Walks: the law's moved kinds and readings. -/
namespace Sp
open PySem L2
theorem mvP_at {p sh : Pt} {k : Nat} (hk : k < p.length) : (mvP p sh)[k]? = some (p.getD k 0 + sh.getD k 0) := by simp [mvP, hk]
/-- a point moved -/
theorem mv_lc {ρ : Rho} {M : Mem} {Q : D → Mem → Prop} {p sh : Pt} (h6 : ρ[6]? = some (some (dP p))) (h1 : ρ[1]? = some (some (dL sh))) (h4 : 4 < ρ.length) (hl : p.length ≤ 10) (hs : p.length ≤ sh.length) (hQ : Q (dP (mvP p sh)) M) :
    wpE (.bi .tuple (.cons (.lc (.op .add (.idx (.var 6) (.var 4)) (.idx (.var 1) (.var 4))) (.one 4) (.rng1 (.bi .len (.cons (.var 6) .nil))) (.bl true) false) .nil)) ρ M Q := by
  simp only [w_bi, w_cons, w_lc, w_rng1, w_nil, w_var]
  refine ⟨_, h6, ?_⟩
  rw [dP, bi_lenT]
  refine ⟨p.length, by simp, by omega, ?_⟩
  refine lc_map (List.range p.length) _ (fun k => .int (p.getD k 0 + sh.getD k 0)) (by rw [List.length_range]; omega) (fun Ma hle k hk => ?_) ?_
  · have hk' : k < p.length := by simpa using hk
    have e1 := at_pt hk'
    have e2 := at_pt (p := sh) (k := k) (by omega)
    have r4 : ((ρ.set 4 none).set 4 (some (D.int k)))[4]? = some (some (D.int k)) := List.getElem?_set_self (by simpa using h4)
    have r6 : ((ρ.set 4 none).set 4 (some (D.int k)))[6]? = some (some (dP p)) := by rw [List.getElem?_set_ne (by decide), List.getElem?_set_ne (by decide)]; exact h6
    have r1 : ((ρ.set 4 none).set 4 (some (D.int k)))[1]? = some (some (dL sh)) := by rw [List.getElem?_set_ne (by decide), List.getElem?_set_ne (by decide)]; exact h1
    simp only [T_one, wipe1, wipe0, b_one, w_op, w_idx, w_var, r4, r6, r1]
    intro E hE
    exact ⟨_, rfl, _, rfl, _, rfl, _, rfl, _, e1, _, rfl, _, rfl, _, rfl, _, rfl, _, e2, hE⟩
  · rw [bi_tupL]
    have e : ((List.range p.length).map fun k => D.int (p.getD k 0 + sh.getD k 0)) = (mvP p sh).map D.int := by unfold mvP; rw [List.map_map]; rfl
    rw [e]; exact hQ
theorem d_law_moved : Does n_law_moved 2 b_law_moved p_law_moved := does fun ds M P ⟨n, k, sh, h1, hn, hk, hs, hP⟩ => by
  subst h1
  refine ⟨rfl, fun R hR hR2 => ?_⟩
  show wpSs t_law_moved_9 [some k.d, some (dL sh), none, none, none, none, none] M _
  have pts : ∀ (nm : Str) (ps : List Pt) (z2 z3 z4 z5 z6 : Option D), (∀ p ∈ ps, POk n p) → ps.length ≤ 2 → R (.tup (.str nm :: ps.map fun p => dP (mvP p sh))) M → wpSs t_law_moved_2 [some (.tup (.str nm :: ps.map dP)), some (dL sh), z2, z3, z4, z5, z6] M { nx := fun x M' => R D.non M', rt := R } := by
    intro nm ps z2 z3 z4 z5 z6 hps hl hRR
    simp only [t_law_moved_2, w_scons, w_asg, w_lc, w_seq, w_slLo, w_var, w_int]
    refine ⟨_, rfl, _, rfl, ?_⟩
    rw [sl_tup, cut_lo1]
    refine ⟨_, rfl, ?_⟩
    refine lc_map ps _ (fun p => dP (mvP p sh)) (by omega) (fun Ma hle p hp => ?_) ?_
    · have hpo := hps p hp
      intro E hE
      exact mv_lc (p := p) (sh := sh) rfl rfl (by simp) (by rw [hpo.len]; omega) (by rw [hpo.len, hs]; omega) hE
    · simp [t_law_moved_1]
      exact ⟨by omega, by simpa using hRR⟩
  cases hk with
  | @side d hd hz =>
    have := hR _ _ hP
    simp [t_law_moved_9, Kind.d, t_law_moved_8]
    exact this
  | @range p hp =>
    have := hR _ _ hP
    simp [t_law_moved_9, Kind.d, -Bool.exists_bool]
    simp [t_law_moved_7, -Bool.exists_bool]
    exact pts _ [p] _ _ _ _ _ (by simpa using hp) (by simp) (by simpa [mvS, Kind.d] using this)
  | @clocked p hp =>
    have := hR _ _ hP
    simp [t_law_moved_9, Kind.d, -Bool.exists_bool]
    simp [t_law_moved_7, -Bool.exists_bool]
    exact pts _ [p] _ _ _ _ _ (by simpa using hp) (by simp) (by simpa [mvS, Kind.d] using this)
  | @differ p q hp hq =>
    have := hR _ _ hP
    simp [t_law_moved_9, Kind.d, -Bool.exists_bool]
    simp [t_law_moved_7, -Bool.exists_bool]
    exact pts _ [p, q] _ _ _ _ _ (by simp [hp, hq]) (by simp) (by simpa [mvS, Kind.d] using this)
  | @piece p q hp hq =>
    have := hR _ _ hP
    simp [t_law_moved_9, Kind.d, -Bool.exists_bool]
    simp [t_law_moved_7, -Bool.exists_bool]
    exact pts _ [p, q] _ _ _ _ _ (by simp [hp, hq]) (by simp) (by simpa [mvS, Kind.d] using this)
  | @boxes os h0 h16 ho =>
    simp [t_law_moved_9, Kind.d, -Bool.exists_bool]
    simp [t_law_moved_7, t_law_moved_6, -Bool.exists_bool]
    intro a ha
    simp [t_law_moved_5, dBs, -Bool.exists_bool]
    refine for_map os _ (fun i ρ' M' => ∃ (z3 z4 z5 z6 : Option D), ρ' = [some (.tup [.str "boxes", .tup (os.map dB)]), some (dL sh), some (.adr a), z3, z4, z5, z6] ∧ M' = M.set a (.lst (((os.take i).map fun o => mvB o sh).map dB))) ⟨_, _, _, _, rfl, rfl⟩ ?_ ?_
    · rintro i o ρ' M' hi ⟨z3, z4, z5, z6, rfl, rfl⟩
      have hoo := ho o (List.mem_of_getElem? hi)
      have hol := hoo.len
      have hil := (List.getElem?_eq_some_iff.mp hi).1
      simp only [t_law_moved_4, w_scons, w_app, w_var, b_one, w_bi, w_cons, w_nil, w_lc, w_rng1]
      refine ⟨_, rfl, ⟨_, _, rfl, Mem.set_same⟩, _, rfl, ?_⟩
      rw [dB, bi_lenT]
      refine ⟨o.length, by simp, by omega, ?_⟩
      refine lc_map (List.range o.length) _ (fun k => dS ((o.getD k (0, 0)).1 + sh.getD k 0, (o.getD k (0, 0)).2 + sh.getD k 0)) (by rw [List.length_range]; omega) (fun Ma hle k hk => ?_) ?_
      · have hk' : k < o.length := by simpa using hk
        have e1 := at_bx hk'
        have e2 := at_pt (p := sh) (k := k) (by omega)
        intro E hE
        refine ⟨_, rfl, _, rfl, _, rfl, _, rfl, _, e1, 0, rfl, _, rfl, _, at0, _, rfl, _, rfl, _, rfl, _, rfl, _, e2, ?_⟩
        refine ⟨_, rfl, _, rfl, _, rfl, _, rfl, _, e1, 1, rfl, _, rfl, _, at1, _, rfl, _, rfl, _, rfl, _, rfl, _, e2, ?_⟩
        exact hE
      · rw [bi_tupL]
        have e : ((List.range o.length).map fun k => dS ((o.getD k (0, 0)).1 + sh.getD k 0, (o.getD k (0, 0)).2 + sh.getD k 0)) = (mvB o sh).map dS := by unfold mvB; rw [List.map_map]; rfl
        rw [e]
        refine ⟨_, _, rfl, Mem.set_same, by simp; omega, _, _, _, _, rfl, ?_⟩
        rw [Mem.set_set, List.take_add_one, hi]
        simp [dB]
    · rintro ρ' M' ⟨z3, z4, z5, z6, rfl, rfl⟩
      rw [List.take_length]
      simp [t_law_moved_3, bi_tupA Mem.set_same]
      refine hR2 _ _ M (le_set ha) ?_
      simpa [mvS, Kind.d, dBs] using hP
theorem rd_ru {n : Int} (h : 0 ≤ n) : rd n ≤ ru n := by unfold ru; split <;> omega
theorem ru_mono {m n : Int} (h : 0 ≤ m) (hn : m ≤ n) : ru m ≤ ru n := by
  have h1 := ru_spec h
  have h2 := ru_spec (n := n) (by omega)
  exact h1.2.2 _ h2.1 (by omega)
theorem sq2_bd {n : Nat} {p b : Pt} (hn : n ≤ 3) (hl : p.length = n) (hp : Bd 1000000 p) (hb : POk n b) : 0 ≤ sq2 p b ∧ sq2 p b ≤ 16000000000000 := by
  have hb2 : Bd 2000000 (minusS p b) := (minus_bd hp hb.bd).mono (by omega)
  have := (dot_bd (by rw [minus_len]; omega) hb2 hb2 (by decide) (by decide)).2
  refine ⟨dot_nn _, ?_⟩
  unfold sq2; omega
theorem roots_bd {n : Int} (h : 0 ≤ n) (h' : n ≤ 16000000000000) : 0 ≤ rd n ∧ rd n ≤ ru n ∧ ru n ≤ 4000000 := ⟨(rd_spec h).1, rd_ru h, (ru_spec h).2.2 _ (by decide) (by omega)⟩
theorem piece_le {n : Nat} {p a t : Pt} (hn : n ≤ 3) (hl : p.length = n) (hp : Bd 1000000 p) (ha : POk n a) (ht : POk n t) : (pieceS p a t).1 ≤ (pieceS p a t).2 := by
  unfold pieceS
  split
  · exact Int.le_refl _
  · split
    · exact Int.le_refl _
    · rename_i c1 c2
      have hw : 0 < dotS (minusS t a) (minusS t a) := by have := dot_nn (minusS t a); omega
      generalize dotS (minusS p a) (minusS p a) * dotS (minusS t a) (minusS t a) - dotS (minusS p a) (minusS t a) * dotS (minusS p a) (minusS t a) = q
      generalize dotS (minusS t a) (minusS t a) = w at *
      show q / w ≤ -(-q / w)
      have h1 := Int.ediv_mul_le q (b := w) (by omega)
      have h2 := Int.ediv_mul_le (-q) (b := w) (by omega)
      have h3 : (q / w) * w ≤ -(-q / w) * w := by rw [Int.neg_mul]; omega
      exact Int.le_of_mul_le_mul_right h3 hw
theorem val_bd {n : Nat} {k : Kind} {p : Pt} {c : Int} (hn : n ≤ 3) (hl : p.length = n) (hp : Bd 10000 p) (hc : -1000 ≤ c ∧ c ≤ 1000) (hk : KOk n k) : -10000000 ≤ (valS k p c).1 ∧ (valS k p c).1 ≤ (valS k p c).2 ∧ (valS k p c).2 ≤ 10000000 := by
  have hp6 : Bd 1000000 p := hp.mono (by omega)
  cases hk with
  | @range a ha =>
    have h := sq2_bd hn hl hp6 ha
    have := roots_bd h.1 h.2
    simp only [valS]; omega
  | @clocked a ha =>
    have h := sq2_bd hn hl hp6 ha
    have := roots_bd h.1 h.2
    simp only [valS]; omega
  | @differ a b ha hb =>
    have h := sq2_bd hn hl hp6 ha
    have := roots_bd h.1 h.2
    have h := sq2_bd hn hl hp6 hb
    have := roots_bd h.1 h.2
    simp only [valS]; omega
  | @side d hd hz =>
    have := dot_bd (by rw [hd.len]; omega) hd.bd hp (by decide) (by decide)
    simp only [valS]; omega
  | @piece a t ha ht =>
    have o := piece_ok hn hl hp6 ha ht
    have hpb := piece_bd o (dot_cs hl ha.len ht.len)
    have h1 := roots_bd hpb.1.1 hpb.1.2
    have h2 := roots_bd hpb.2.1 hpb.2.2
    have h3 := ru_mono hpb.1.1 (piece_le hn hl hp6 ha ht)
    simp only [valS]; omega
  | @boxes os h0 h16 ho =>
    have o1 := os_map2 (n := n) (f := fun o => nearS p o) h0 (fun o h => near_bd6 (by omega) hl hp6 (ho o h))
    have := roots_bd o1.1 o1.2
    simp only [valS]; omega
theorem pl_bd {n : Nat} {s : Stg} {w : Way} {t : Int} (hw : WOk n s w) (ht : -100 ≤ t ∧ t ≤ 100) : (plS w t).length = n ∧ Bd 500 (plS w t) ∧ -500 ≤ ckS w t ∧ ckS w t ≤ 500 := by
  have htu := hw.turn
  refine ⟨by simp [plS, hw.len], fun x hx => ?_, ?_⟩
  · obtain ⟨k, hk, rfl⟩ := List.mem_map.mp hx
    have hk : k < w.place.length := by simpa using hk
    have b1 := getD_bd hw.place hk
    have b2 : -3 ≤ (if t - w.turn < 0 then w.first else w.second).getD k 0 ∧ (if t - w.turn < 0 then w.first else w.second).getD k 0 ≤ 3 := by
      split
      · exact getD_bd hw.bf (by rw [hw.lf, ← hw.len]; exact hk)
      · exact getD_bd hw.bs (by rw [hw.ls, ← hw.len]; exact hk)
    have := mul_bd (y := t - w.turn) (L := 110) b2 (by omega) (by decide) (by decide)
    omega
  · have hc := hw.clock
    have b2 : -2 ≤ (if t - w.turn < 0 then w.early else w.late) ∧ (if t - w.turn < 0 then w.early else w.late) ≤ 2 := by
      split
      · exact hw.be
      · exact hw.bl
    have := mul_bd (y := t - w.turn) (L := 110) b2 (by omega) (by decide) (by decide)
    unfold ckS; omega
theorem zeros : ∀ n : Nat, ((List.replicate n (0 : Int)).map fun x => x * x).sum = 0
  | 0 => rfl
  | n + 1 => by
    rw [List.replicate_succ, List.map_cons, List.sum_cons, zeros n]; decide
theorem single_sum (x : Int) : ∀ n i : Nat, (((List.replicate n (0 : Int)).set i x).map fun x => x * x).sum ≤ x * x
  | 0, i => by simpa using (sq_bd (x := x) (K := absI x) (by unfold absI; omega)).1
  | n + 1, 0 => by
    rw [List.replicate_succ, List.set_cons_zero, List.map_cons, List.sum_cons, zeros n]; omega
  | n + 1, i + 1 => by
    rw [List.replicate_succ, List.set_cons_succ, List.map_cons, List.sum_cons]
    have := single_sum x n i; omega
theorem single_sq {n i : Nat} {x : Int} : sqP ((List.replicate n (0 : Int)).set i x) ≤ x * x := by
  rw [← sqP_sum]; exact single_sum x n i
theorem d_law_reading : Does n_law_reading 5 b_law_reading p_law_reading := does fun ds M P ⟨n, s, w, nm, r, l, h1, n23, hw, hnm, hP⟩ => by
  subst h1
  refine ⟨rfl, fun R hR hR2 => ?_⟩
  have n3 : n ≤ 3 := by omega
  show wpSs t_law_reading_15 [some w.d, some (.int (n : Nat)), some (.str nm), some (.int r), some (.bl l), none, none, none, none, none, none, none, none, none] M _
  simp [t_law_reading_15, e_law_kind, -Bool.exists_bool]
  refine ⟨n, _, rfl, n23, fun k hk => ?_⟩
  have q1 := mod_bd r (m := 25) (by decide)
  have q2 := mod_bd (r / 25) (m := 5) (by decide)
  have q3 := mod_bd (r / 125) (m := 3) (by decide)
  have q4 := mod_bd (r / 375) (m := 4) (by decide)
  have q5 := mod_bd (r / 1500) (m := (n : Int)) (by omega)
  have q6 := mod_bd (r / 625) (m := 3) (by decide)
  simp [t_law_reading_14, t_law_reading_13, t_law_reading_12, -Bool.exists_bool]
  refine ⟨cm1 (by omega), ?_⟩
  simp [t_law_reading_11, t_law_reading_10, -Bool.exists_bool]
  refine ⟨n, rfl, by omega, fun a ha => ?_⟩
  simp [t_law_reading_9, Mem.set_same, Mem.set_set, -Bool.exists_bool]
  have hix : ixN n (r / 1500 % (n : Int)) = some (r / 1500 % (n : Int)).toNat := ixN_nat (by omega) (by omega)
  refine ⟨cm1 (by omega), by omega, _, hix, ?_⟩
  have eset : (List.replicate n (D.int 0)).set (r / 1500 % (n : Int)).toNat (.int (r / 375 % 4 / 2 * (r / 625 % 3 - 1))) = ((List.replicate n (0 : Int)).set (r / 1500 % (n : Int)).toNat (r / 375 % 4 / 2 * (r / 625 % 3 - 1))).map D.int := by rw [List.map_set, List.map_replicate]
  rw [eset]
  have hnear : 0 ≤ r / 375 % 4 / 2 ∧ r / 375 % 4 / 2 ≤ 1 := by omega
  have hlate : 0 ≤ r / 25 % 5 / 2 ∧ r / 25 % 5 / 2 ≤ 2 := by omega
  have hx : -1 ≤ r / 625 % 3 - 1 ∧ r / 625 % 3 - 1 ≤ 1 := by omega
  have hy : -1 ≤ r / 125 % 3 - 1 ∧ r / 125 % 3 - 1 ≤ 1 := by omega
  have hxm : -1 ≤ r / 375 % 4 / 2 * (r / 625 % 3 - 1) ∧ r / 375 % 4 / 2 * (r / 625 % 3 - 1) ≤ 1 := by
    have := mul_bd (x := r / 375 % 4 / 2) (y := r / 625 % 3 - 1) (K := 1) (L := 1) (by omega) hx (by decide) (by decide)
    omega
  have hxsq : r / 375 % 4 / 2 * (r / 625 % 3 - 1) * (r / 375 % 4 / 2 * (r / 625 % 3 - 1)) ≤ r / 375 % 4 / 2 * (r / 375 % 4 / 2) := by
    have h01 : r / 375 % 4 / 2 = 0 ∨ r / 375 % 4 / 2 = 1 := by omega
    rcases h01 with e | e
    · rw [e]; simp
    · rw [e]
      have := (sq_bd (x := 1 * (r / 625 % 3 - 1)) (K := 1) (by omega)).2
      omega
  have htk : absI (r % 25 - 12 + r / 25 % 5 / 2 * (r / 125 % 3 - 1) - (r % 25 - 12)) ≤ r / 25 % 5 / 2 ∧ -100 ≤ r % 25 - 12 + r / 25 % 5 / 2 * (r / 125 % 3 - 1) ∧ r % 25 - 12 + r / 25 % 5 / 2 * (r / 125 % 3 - 1) ≤ 100 := by
    have h3 : r / 125 % 3 - 1 = -1 ∨ r / 125 % 3 - 1 = 0 ∨ r / 125 % 3 - 1 = 1 := by omega
    unfold absI
    rcases h3 with e | e | e <;> rw [e] <;> omega
  have hshl : ((List.replicate n (0 : Int)).set (r / 1500 % (n : Int)).toNat (r / 375 % 4 / 2 * (r / 625 % 3 - 1))).length = n := by simp
  have hshb : Bd 10 ((List.replicate n (0 : Int)).set (r / 1500 % (n : Int)).toNat (r / 375 % 4 / 2 * (r / 625 % 3 - 1))) := fun x hx' => by
    rcases List.mem_or_eq_of_mem_set hx' with h | h
    · rw [List.mem_replicate] at h; omega
    · omega
  have hshs := single_sq (n := n) (i := (r / 1500 % (n : Int)).toNat) (x := r / 375 % 4 / 2 * (r / 625 % 3 - 1))
  generalize hsh : (List.replicate n (0 : Int)).set (r / 1500 % (n : Int)).toNat (r / 375 % 4 / 2 * (r / 625 % 3 - 1)) = sh at *
  generalize hmo : r % 25 - 12 = mo at *
  generalize hla : r / 25 % 5 / 2 = la at *
  generalize htkk : mo + la * (r / 125 % 3 - 1) = tk at *
  generalize hne : r / 375 % 4 / 2 = ne at *
  simp [t_law_reading_8, e_law_at, -Bool.exists_bool]
  refine ⟨n, s, w, tk, rfl, n3, hw, ⟨by omega, by omega⟩, ?_⟩
  obtain ⟨p1, p2, p3⟩ := pl_bd hw htk.2
  have hmv := hk.mv sh hshl hshb
  have hv := val_bd (c := ckS w tk) n3 p1 (p2.mono (by omega)) ⟨by omega, by omega⟩ hmv
  simp [t_law_reading_7, Mem.set_same, Mem.set_del ha, e_law_moved, -Bool.exists_bool]
  refine ⟨n, k, sh, by simp [dL], n3, hk.ok, hshl, ?_⟩
  simp only [dL, sl_lst]
  rw [cut_hiN (k := n) rfl (by simp [p1])]
  have etk : ((plS w tk ++ [ckS w tk]).map D.int).take n = (plS w tk).map D.int := by
    rw [List.map_append, List.take_append_of_le_length (by simp [p1]), List.take_of_length_le (by simp [p1])]
  rw [etk]
  have eat : atI ((plS w tk ++ [ckS w tk]).map D.int) (n : Int) = some (.int (ckS w tk)) := atI_nat rfl (by rw [List.getElem?_map, List.getElem?_append_right (by omega), p1]; simp)
  refine ⟨_, rfl, _, eat, ?_⟩
  simp [e_law_value, -Bool.exists_bool]
  refine ⟨n, mvS k sh, plS w tk, ckS w tk, rfl, n3, p1, p2.mono (by omega), hmv, ?_⟩
  simp [dS, -Bool.exists_bool]
  have n5 := mod_bd (r / 5) (m := 4) (by decide)
  have n9 := mod_bd (r / 9) (m := 4) (by decide)
  have n7 := mod_bd (r / 7) (m := 61) (by decide)
  have n11 := mod_bd (r / 11) (m := 5) (by decide)
  generalize hv1 : (valS (mvS k sh) (plS w tk) (ckS w tk)).fst = v1 at *
  generalize hv2 : (valS (mvS k sh) (plS w tk) (ckS w tk)).snd = v2 at *
  have fin : ∀ (lo hi : Int) (z10 z11 : Option D), -20000000 ≤ lo → lo ≤ hi → hi ≤ 20000000 → (l = false → lo = v1 ∧ hi = v2) → wpSs t_law_reading_3 [some w.d, some (.int (n : Nat)), some (.str nm), some (.int r), some (.bl l), some k.d, some (.int mo), some (.int la), some (.int tk), some (.int ne), z10, z11, some (.int lo), some (.int hi)] M { nx := fun x M' => R D.non M', rt := R } := by
    intro lo hi z10 z11 h1 h2 h3 h4
    simp [t_law_reading_3, t_law_reading_2, t_law_reading_1, e_Reading]
    have ok : ROk n ⟨nm, mo, k, lo - r / 5 % 4, hi + r / 9 % 4, la, ne⟩ := ⟨hnm, by simp only []; omega, hk.ok, by simp only []; omega, by simp only []; omega, by simp only []; omega, by simp only []; omega⟩
    refine ⟨⟨nm, mo, k, lo - r / 5 % 4, hi + r / 9 % 4, la, ne⟩, rfl, ⟨n, n3, ok⟩, hR _ _ (hP _ ok rfl fun hlf => ?_)⟩
    obtain ⟨e1, e2⟩ := h4 hlf
    refine ⟨tk, sh, htk.1, by rw [hw.len]; exact hshl, Int.le_trans hshs hxsq, ?_, ?_⟩
    · show lo - r / 5 % 4 ≤ (valS (mvS k sh) (plS w tk) (ckS w tk)).1
      rw [hv1]; omega
    · show (valS (mvS k sh) (plS w tk) (ckS w tk)).2 ≤ hi + r / 9 % 4
      rw [hv2]; omega
  simp [t_law_reading_6, -Bool.exists_bool]
  cases l with
  | false => simp; exact fin _ _ _ _ (by omega) (by omega) (by omega) (fun _ => ⟨rfl, rfl⟩)
  | true =>
    simp [t_law_reading_5, t_law_reading_4]
    exact fin _ _ _ _ (by omega) (by omega) (by omega) (fun h => by cases h)
theorem d_law_readings : Does n_law_readings 6 b_law_readings p_law_readings := does fun ds M P ⟨n, s, w, rs, m, ls, h1, n23, hw, hm, hl7, hP⟩ => by
  subst h1
  refine ⟨rfl, fun R hR hR2 => ?_⟩
  show wpSs t_law_readings_5 [some w.d, some (.int (n : Nat)), some (dL rs), some (.int (m : Nat)), some (.lst (names5.map D.str)), some (.lst (ls.map D.str)), none, none, none] M _
  simp [t_law_readings_5, -Bool.exists_bool]
  intro a ha
  simp [t_law_readings_4, -Bool.exists_bool]
  refine ⟨m, rfl, by omega, ?_⟩
  refine for_map (List.range m) _ (fun i ρ' M' => ∃ (out : List Rw) (z7 z8 : Option D), ρ' = [some w.d, some (.int (n : Nat)), some (dL rs), some (.int (m : Nat)), some (.lst (names5.map D.str)), some (.lst (ls.map D.str)), some (.adr a), z7, z8] ∧ M' = M.set a (.lst (out.map dRw)) ∧ out.length = i ∧ (∀ r ∈ out, ROk n r.2) ∧ ∀ r ∈ out, r.2.source ∉ ls → Truth w r.2) ⟨[], _, _, rfl, rfl, rfl, by simp, by simp⟩ ?_ ?_
  · rintro i j ρ' M' hi ⟨out, z7, z8, rfl, rfl, hol, ho1, ho2⟩
    have hij : j = i ∧ i < m := by
      obtain ⟨h1, h2⟩ := List.getElem?_eq_some_iff.mp hi
      simp at h1 h2; exact ⟨h2.symm, h1⟩
    obtain ⟨rfl, him⟩ := hij
    have hjr : j < rs.length := by omega
    have e1 := at_pt hjr
    have q := mod_bd (rs.getD j 0 / 13) (m := 4) (by decide)
    have hnl : names5.length = 4 := rfl
    have hk4 : (rs.getD j 0 / 13 % 4).toNat < names5.length := by omega
    have e2 : atI (names5.map D.str) (rs.getD j 0 / 13 % 4) = some (.str names5[(rs.getD j 0 / 13 % 4).toNat]) := atI_nat (k := (rs.getD j 0 / 13 % 4).toNat) (by omega) (by rw [List.getElem?_map, List.getElem?_eq_getElem hk4]; rfl)
    have hnm : names5[(rs.getD j 0 / 13 % 4).toNat] ∈ names5 := List.getElem_mem hk4
    generalize names5[(rs.getD j 0 / 13 % 4).toNat] = nm at *
    generalize hrr : rs.getD j 0 = rr at *
    simp [t_law_readings_3, dL, e1, hnl, e2, -Bool.exists_bool]
    simp only [t_law_readings_2, w_scons, w_app, w_snil, w_tup, w_cons, w_nil, w_op, w_var, w_int, w_call, w_idx, w_cmp]
    refine ⟨_, rfl, ⟨_, _, rfl, Mem.set_same⟩, _, rfl, cm2 (by omega), _, rfl, _, rfl, _, rfl, _, rfl, _, rfl, _, rfl, _, rfl, _, e1, ?_⟩
    refine ⟨_, rfl, _, rfl, ?_⟩
    refine c_isin (xs := ls) rfl (fun ns h => by cases h) (fun ns h => by cases h) ?_
    refine ⟨n, s, w, nm, rr, _, rfl, n23, hw, hnm, fun rd g1 g2 g3 => ?_⟩
    refine ⟨_, _, rfl, Mem.set_same, by simp; omega, ⟨_, _, rfl⟩, out ++ [((j : Int) * 3 + 2, rd)], ?_, by simp [hol], ?_, ?_⟩
    · rw [Mem.set_set]; simp [dRw]
    · intro x y hr
      rcases List.mem_append.mp hr with h | h
      · exact ho1 (x, y) h
      · rw [List.mem_singleton] at h; cases h; exact g1
    · intro x y hr
      rcases List.mem_append.mp hr with h | h
      · exact ho2 (x, y) h
      · rw [List.mem_singleton] at h; cases h
        intro hn
        exact g3 (by simpa [g2] using hn)
  · rintro ρ' M' ⟨out, z7, z8, rfl, rfl, hol, ho1, ho2⟩
    simp only [List.length_range] at hol
    simp [t_law_readings_1, Mem.set_same, Mem.set_del ha]
    exact hR _ _ (hP out ⟨by omega, ho1⟩ (by omega) ho2)
end Sp
end
section
set_option Elab.async false
set_option linter.all false
set_option maxRecDepth 100000
/-! Walks: the law's question and plan. -/
namespace Sp
open PySem L2
theorem d_law_question : Does n_law_question 4 b_law_question p_law_question := does fun ds M P ⟨n, s, w, r, l, h1, n23, hw, hl, hP⟩ => by
  subst h1
  refine ⟨rfl, fun R hR hR2 => ?_⟩
  have n3 : n ≤ 3 := by omega
  show wpSs t_law_question_9 [some w.d, some (.int (n : Nat)), some (.int r), some (.int l), none, none, none, none, none, none, none, none, none] M _
  have q1 := mod_bd r (m := 21) (by decide)
  have q2 := mod_bd (r / 7) (m := 6) (by decide)
  have q3 := mod_bd (r / 3) (m := 16) (by decide)
  have q4 := mod_bd (r / 5) (m := 28) (by decide)
  simp [t_law_question_9, t_law_question_8, e_law_at, -Bool.exists_bool]
  refine ⟨n, s, w, _, rfl, n3, hw, ⟨by omega, by omega⟩, ?_⟩
  obtain ⟨p1, p2, p3⟩ := pl_bd (t := r % 21 - 10) hw (by omega)
  simp [t_law_question_7, e_law_digits, -Bool.exists_bool]
  refine ⟨r / 21, 13, n + 1, by simp, by omega, by omega, by omega, fun xs hx1 hx2 => ?_⟩
  simp [t_law_question_6, e_law_digits, -Bool.exists_bool]
  refine ⟨r / 33, 11, n + 1, by simp, by omega, by omega, by omega, fun ys hy1 hy2 => ?_⟩
  generalize hT : plS w (r % 21 - 10) ++ [ckS w (r % 21 - 10)] = T at *
  have hTl : T.length = n + 1 := by rw [← hT]; simp [p1]
  have hTb : Bd 500 T := fun x hx => by
    rw [← hT] at hx
    rcases List.mem_append.mp hx with h | h
    · exact p2 x h
    · rw [List.mem_singleton] at h; subst h; exact p3
  simp only [t_law_question_5, w_scons, w_asg, w_lc, w_rng1, w_op, w_var, w_int]
  refine ⟨_, rfl, ?_⟩
  rw [op_add]
  refine ⟨n + 1, by simp, by omega, ?_⟩
  refine lc_map (List.range (n + 1)) _ (fun k => dS (T.getD k 0 - xs.getD k 0, T.getD k 0 + ys.getD k 0)) (by rw [List.length_range]; omega) (fun Ma hle k hk => ?_) ?_
  · have hk' : k < n + 1 := by simpa using hk
    have e1 := at_pt (p := T) (k := k) (by omega)
    have e2 := at_pt (p := xs) (k := k) (by omega)
    have e3 := at_pt (p := ys) (k := k) (by omega)
    intro E hE
    refine ⟨_, rfl, _, rfl, _, rfl, _, rfl, _, e1, _, rfl, _, rfl, _, rfl, _, rfl, _, e2, ?_⟩
    refine ⟨_, rfl, _, rfl, _, rfl, _, rfl, _, e1, _, rfl, _, rfl, _, rfl, _, rfl, _, e3, ?_⟩
    exact hE
  · have eb : ((List.range (n + 1)).map fun k => dS (T.getD k 0 - xs.getD k 0, T.getD k 0 + ys.getD k 0)) = ((List.range (n + 1)).map fun k => (T.getD k 0 - xs.getD k 0, T.getD k 0 + ys.getD k 0)).map dS := by rw [List.map_map]; rfl
    rw [eb]
    have hbl : ((List.range (n + 1)).map fun k => ((T.getD k 0 - xs.getD k 0, T.getD k 0 + ys.getD k 0) : Sd)).length = n + 1 := by simp
    have hbat : ∀ k, k < n + 1 → ((List.range (n + 1)).map fun k => ((T.getD k 0 - xs.getD k 0, T.getD k 0 + ys.getD k 0) : Sd)).getD k (0, 0) = (T.getD k 0 - xs.getD k 0, T.getD k 0 + ys.getD k 0) := fun k hk => by
      rw [List.getD_eq_getElem?_getD, List.getElem?_map, List.getElem?_range hk]; rfl
    have hbb : BdB 1000 ((List.range (n + 1)).map fun k => ((T.getD k 0 - xs.getD k 0, T.getD k 0 + ys.getD k 0) : Sd)) := fun q hq => by
      obtain ⟨k, hk, rfl⟩ := List.mem_map.mp hq
      have hk' : k < n + 1 := by simpa using hk
      have g1 := getD_bd (k := k) hTb (by omega)
      have g2 : 0 ≤ xs.getD k 0 ∧ xs.getD k 0 < 13 := by
        rw [List.getD_eq_getElem?_getD, List.getElem?_eq_getElem (by omega)]; exact hx2 _ (List.getElem_mem _)
      have g3 : 0 ≤ ys.getD k 0 ∧ ys.getD k 0 < 11 := by
        rw [List.getD_eq_getElem?_getD, List.getElem?_eq_getElem (by omega)]; exact hy2 _ (List.getElem_mem _)
      simp only []; omega
    generalize hB : (List.range (n + 1)).map (fun k => ((T.getD k 0 - xs.getD k 0, T.getD k 0 + ys.getD k 0) : Sd)) = B at *
    simp [t_law_question_4, t_law_question_3, t_law_question_2, t_law_question_1, e_Question]
    have ok : QOk n ⟨r % 21 - 10, B, l, 1 + r / 7 % 6, -(r / 3 % 16), -(r / 3 % 16) + r / 5 % 28⟩ := ⟨by simp only []; omega, hbl, hbb, hl, by simp only []; omega, by simp only []; omega, by simp only []; omega⟩
    refine ⟨⟨r % 21 - 10, B, l, 1 + r / 7 % 6, -(r / 3 % 16), -(r / 3 % 16) + r / 5 % 28⟩, rfl, ⟨n, n3, ok⟩, hR _ _ (hP _ ok rfl ⟨by simp only []; rw [hbl, hw.len], fun k hk => ?_⟩)⟩
    simp only [] at hk ⊢
    rw [hbl] at hk
    rw [hbat k hk, hT]
    have g2 : 0 ≤ xs.getD k 0 := by
      rw [List.getD_eq_getElem?_getD, List.getElem?_eq_getElem (by omega)]; exact (hx2 _ (List.getElem_mem _)).1
    have g3 : 0 ≤ ys.getD k 0 := by
      rw [List.getD_eq_getElem?_getD, List.getElem?_eq_getElem (by omega)]; exact (hy2 _ (List.getElem_mem _)).1
    simp only []; omega
theorem sorted_at {ms : List Int} (h : ms.Pairwise (· ≤ ·)) {i j : Nat} (hij : i ≤ j) (hj : j < ms.length) : ms.getD i 0 ≤ ms.getD j 0 := by
  have hi : i < ms.length := by omega
  rw [List.getD_eq_getElem?_getD, List.getD_eq_getElem?_getD, List.getElem?_eq_getElem hi, List.getElem?_eq_getElem hj]
  rcases Nat.lt_or_ge i j with h1 | h1
  · exact List.pairwise_iff_getElem.mp h i j hi hj h1
  · have : i = j := by omega
    subst this; exact Int.le_refl _
def plI (q : Qn) (rs : List Rw) (r0 r1 : Int) (ts : List Int) (a : Addr) (M : Mem) (i : Nat) (ρ' : Rho) (M' : Mem) : Prop := ∃ (out : List (List Str)) (z5 z6 z7 z8 z11 z12 z13 z14 z15 z16 : Option D), ρ' = [some q.d, some (dRs rs), some (dL [r0, r1]), some (.lst (names5.map D.str)), some (dL ts), z5, z6, z7, z8, some (.int (r0 / 63 % 3)), some (.adr a), z11, z12, z13, z14, z15, z16] ∧ M' = M.set a (.lst (out.map dN)) ∧ out.length = i ∧ ∀ o ∈ out, o.length ≤ 8
theorem d_law_plan : Does n_law_plan 4 b_law_plan p_law_plan := does fun ds M P ⟨n, q, rs, xs, h1, n3, hq, hr, hrl, hxl, hP⟩ => by
  subst h1
  refine ⟨rfl, fun R hR hR2 => ?_⟩
  obtain ⟨r0, r1, rfl⟩ : ∃ r0 r1, xs = [r0, r1] := by
    match xs, hxl with
    | [a, b], _ => exact ⟨a, b, rfl⟩
  have hqm := hq.moment
  have hqe := hq.earliest
  have hql := hq.latest
  have hnl : names5.length = 4 := rfl
  show wpSs t_law_plan_16 [some q.d, some (dRs rs), some (dL [r0, r1]), some (.lst (names5.map D.str)), none, none, none, none, none, none, none, none, none, none, none, none, none] M _
  simp [t_law_plan_16, dRs, -Bool.exists_bool]
  refine lc_map rs _ (fun r => .int r.2.moment) (by omega) (fun Ma hle r hr' => ?_) ?_
  · simp [dRw, Rdg.d]
  · have e0 : (rs.map fun r => D.int r.2.moment) = (rs.map fun r => r.2.moment).map D.int := by rw [List.map_map]; rfl
    rw [e0]
    have m9 := mod_bd (r0 / 7) (m := 9) (by decide)
    simp [t_law_plan_15, Qn.d, dL, -Bool.exists_bool]
    refine ⟨by omega, ?_⟩
    have e1 : (rs.map (D.int ∘ fun r => r.2.moment)) ++ [D.int q.moment, .int (q.earliest + r0 / 7 % 9)] = ((rs.map fun r => r.2.moment) ++ [q.moment, q.earliest + r0 / 7 % 9]).map D.int := by simp
    rw [e1]
    have l1 : ((rs.map fun r => r.2.moment) ++ [q.moment, q.earliest + r0 / 7 % 9]).length ≤ 9 := by simp; omega
    generalize (rs.map fun r => r.2.moment) ++ [q.moment, q.earliest + r0 / 7 % 9] = ms0 at *
    simp [t_law_plan_14, -Bool.exists_bool]
    refine lc_filter ms0 _ (fun t => decide (q.earliest ≤ t) && decide (t ≤ q.latest)) D.int (by omega) (fun Ma hle t ht => ?_) ?_
    · simp [-Bool.exists_bool]
      intro C hC
      split <;> simp_all
    · have l2 : (ms0.filter fun t => decide (q.earliest ≤ t) && decide (t ≤ q.latest)).length ≤ 9 := Nat.le_trans (List.length_filter_le _ _) l1
      have b2 : Bd 1000 (ms0.filter fun t => decide (q.earliest ≤ t) && decide (t ≤ q.latest)) := fun x hx => by
        have := (List.mem_filter.mp hx).2
        simp only [Bool.and_eq_true, decide_eq_true_eq] at this
        omega
      generalize (ms0.filter fun t => decide (q.earliest ≤ t) && decide (t ≤ q.latest)) = ms1 at *
      refine ⟨ms1, rfl, by omega, fun ms hperm hsort => ?_⟩
      have l3 : ms.length ≤ 9 := by rw [hperm.length_eq]; exact l2
      have b3 : Bd 1000 ms := fun x hx => b2 x (hperm.mem_iff.mp hx)
      simp [t_law_plan_13, -Bool.exists_bool]
      refine ⟨ms.length, rfl, by omega, ?_⟩
      refine lc_filter (List.range ms.length) _ (fun k => decide (k = 0) || !decide (ms.getD k 0 = ms.getD (k - 1) 0)) (fun k => .int (ms.getD k 0)) (by rw [List.length_range]; omega) (fun Ma hle k hk => ?_) ?_
      · have hk' : k < ms.length := by simpa using hk
        have e1 := at_pt hk'
        simp [e1, -Bool.exists_bool]
        intro C hC
        by_cases c0 : k = 0
        · subst c0; simpa using hC
        · rw [if_neg c0]
          have e2 : atI (ms.map D.int) ((k : Int) - 1) = some (.int (ms.getD (k - 1) 0)) := by
            have := at_pt (p := ms) (k := k - 1) (by omega)
            have e : ((k - 1 : Nat) : Int) = (k : Int) - 1 := by omega
            rw [e] at this; exact this
          refine ⟨_, e2, ?_⟩
          rw [c_neI]
          simpa [c0] using hC
      · have hpw : (((List.range ms.length).filter fun k => decide (k = 0) || !decide (ms.getD k 0 = ms.getD (k - 1) 0)).map fun k => ms.getD k 0).Pairwise (· < ·) := by
          rw [List.pairwise_map]
          refine List.Pairwise.imp_of_mem (R := fun a b => a < b) (fun {a b} ha hb hab => ?_) (List.Pairwise.filter _ List.pairwise_lt_range)
          obtain ⟨hb1, hb2⟩ := List.mem_filter.mp hb
          rw [List.mem_range] at hb1
          have hne : ms.getD b 0 ≠ ms.getD (b - 1) 0 := by
            simp only [Bool.or_eq_true, decide_eq_true_eq, Bool.not_eq_true', decide_eq_false_iff_not] at hb2
            rcases hb2 with h | h
            · omega
            · exact h
          have g1 := sorted_at hsort (i := a) (j := b - 1) (by omega) (by omega)
          have g2 := sorted_at hsort (i := b - 1) (j := b) (by omega) hb1
          omega
        have hbd : Bd 1000 (((List.range ms.length).filter fun k => decide (k = 0) || !decide (ms.getD k 0 = ms.getD (k - 1) 0)).map fun k => ms.getD k 0) := fun x hx => by
          obtain ⟨k, hk, rfl⟩ := List.mem_map.mp hx
          have := (List.mem_filter.mp hk).1
          exact getD_bd b3 (by simpa using this)
        have edd : (((List.range ms.length).filter fun k => decide (k = 0) || !decide (ms.getD k 0 = ms.getD (k - 1) 0)).map fun k => D.int (ms.getD k 0)) = (((List.range ms.length).filter fun k => decide (k = 0) || !decide (ms.getD k 0 = ms.getD (k - 1) 0)).map fun k => ms.getD k 0).map D.int := by rw [List.map_map]; rfl
        rw [edd]
        generalize (((List.range ms.length).filter fun k => decide (k = 0) || !decide (ms.getD k 0 = ms.getD (k - 1) 0)).map fun k => ms.getD k 0) = ds at *
        have m63 := mod_bd (r0 / 63) (m := 3) (by decide)
        have m189 := mod_bd (r0 / 189) (m := 3) (by decide)
        have m500 := mod_bd (r0 / 500) (m := 6) (by decide)
        have m3000 := mod_bd (r0 / 3000) (m := 8) (by decide)
        have m4 := mod_bd r1 (m := 4) (by decide)
        simp [t_law_plan_12, t_law_plan_11, t_law_plan_10, dL, -Bool.exists_bool]
        rw [cut_N (k := (r0 / 63 % 3).toNat) (l := (r0 / 63 % 3 + 1 + r0 / 189 % 3).toNat) (by omega) (by omega), ← List.map_drop, ← List.map_take]
        have hpw2 : ((ds.drop (r0 / 63 % 3).toNat).take ((r0 / 63 % 3 + 1 + r0 / 189 % 3).toNat - (r0 / 63 % 3).toNat)).Pairwise (· < ·) := (hpw.sublist ((List.take_sublist _ _).trans (List.drop_sublist _ _)))
        have hbd2 : Bd 1000 ((ds.drop (r0 / 63 % 3).toNat).take ((r0 / 63 % 3 + 1 + r0 / 189 % 3).toNat - (r0 / 63 % 3).toNat)) := fun x hx => hbd x (List.mem_of_mem_drop (List.mem_of_mem_take hx))
        have hln2 : ((ds.drop (r0 / 63 % 3).toNat).take ((r0 / 63 % 3 + 1 + r0 / 189 % 3).toNat - (r0 / 63 % 3).toNat)).length ≤ 16 := Nat.le_trans (List.length_take_le _ _) (by omega)
        generalize (ds.drop (r0 / 63 % 3).toNat).take ((r0 / 63 % 3 + 1 + r0 / 189 % 3).toNat - (r0 / 63 % 3).toNat) = ts at *
        intro a ha
        simp [t_law_plan_9, -Bool.exists_bool]
        refine ⟨(r1 % 4).toNat, by omega, by omega, ?_⟩
        refine for_map (List.range (r1 % 4).toNat) _ (plI q rs r0 r1 ts a M) ⟨[], _, _, _, _, _, _, _, _, _, _, rfl, rfl, rfl, by simp⟩ ?_ ?_
        · rintro i j ρ' M' hi ⟨out, z5, z6, z7, z8, z11, z12, z13, z14, z15, z16, rfl, rfl, hol, ho⟩
          have hij : j = i ∧ i < 4 := by
            obtain ⟨h1, h2⟩ := List.getElem?_eq_some_iff.mp hi
            simp at h1 h2; exact ⟨h2.symm, by omega⟩
          obtain ⟨rfl, hi4⟩ := hij
          have nameAt : ∀ x : Int, ∃ y, atI (names5.map D.str) (x % 4) = some (.str y) := fun x => by
            have q := mod_bd x (m := 4) (by decide)
            have hk4 : (x % 4).toNat < names5.length := by omega
            exact ⟨_, atI_nat (k := (x % 4).toNat) (by omega) (by rw [List.getElem?_map, List.getElem?_eq_getElem hk4]; rfl)⟩
          obtain ⟨na, ea⟩ := nameAt (r1 / (4 + (j : Int)))
          obtain ⟨nb, eb⟩ := nameAt (r1 / (29 + 3 * (j : Int)))
          simp [t_law_plan_8, dL, hnl, ea, -Bool.exists_bool]
          refine ⟨⟨by omega, by omega⟩, ?_⟩
          simp [t_law_plan_7, hnl, eb, -Bool.exists_bool]
          refine ⟨cm1 (by omega), ⟨by omega, by omega⟩, ?_⟩
          simp [t_law_plan_6, t_law_plan_5, -Bool.exists_bool]
          refine ⟨cm1 (by omega), ⟨by omega, by omega⟩, ?_⟩
          have q4 := mod_bd (r1 / (100 + 7 * (j : Int))) (m := 4) (by decide)
          have pick : ∃ o : List Str, o.length ≤ 8 ∧ atI [D.tup [], .tup [.str na], .tup [.str na, .str nb], .tup [.str nb, .str "zz"]] (r1 / (100 + 7 * (j : Int)) % 4) = some (dN o) := by
            have h4 : r1 / (100 + 7 * (j : Int)) % 4 = 0 ∨ r1 / (100 + 7 * (j : Int)) % 4 = 1 ∨ r1 / (100 + 7 * (j : Int)) % 4 = 2 ∨ r1 / (100 + 7 * (j : Int)) % 4 = 3 := by omega
            rcases h4 with e | e | e | e <;> rw [e]
            · exact ⟨[], by simp, rfl⟩
            · exact ⟨[na], by simp, rfl⟩
            · exact ⟨[na, nb], by simp, rfl⟩
            · exact ⟨[nb, "zz"], by simp, atI_nat (k := 3) rfl rfl⟩
          obtain ⟨o, ho8, eo⟩ := pick
          refine ⟨_, eo, ?_⟩
          simp [t_law_plan_4, Mem.set_same, Mem.set_set]
          refine ⟨by omega, out ++ [o], _, _, _, _, _, _, _, _, _, _, rfl, by simp, by simp [hol], ?_⟩
          intro z hz
          rcases List.mem_append.mp hz with h | h
          · exact ho z h
          · rw [List.mem_singleton] at h; subst h; exact ho8
        · rintro ρ' M' ⟨out, z5, z6, z7, z8, z11, z12, z13, z14, z15, z16, rfl, rfl, hol, ho⟩
          simp only [List.length_range] at hol
          simp [t_law_plan_3, t_law_plan_2, t_law_plan_1, dL, e_Plan, bi_tupA Mem.set_same]
          have ok : PlOk ⟨ts, 1 + r0 / 500 % 6, 1 + r0 / 3000 % 8, out⟩ := ⟨hln2, hpw2, hbd2, by simp only []; omega, by simp only []; omega, by simp only []; omega, ho⟩
          refine ⟨⟨ts, 1 + r0 / 500 % 6, 1 + r0 / 3000 % 8, out⟩, by simp [aPl, dP], ok, hR2 _ _ M (le_set ha) (hP _ ok)⟩
end Sp
end
section
set_option Elab.async false
set_option linter.all false
set_option maxRecDepth 100000
/-! Walks: papers made and judged, standings. -/
namespace Sp
open PySem L2
theorem d_with_fewer : Does n_with_fewer 1 b_with_fewer p_with_fewer := does fun ds M P ⟨n, q, h1, hn, hq, hl, hP⟩ => by
  subst h1
  refine ⟨rfl, fun R hR _ => ?_⟩
  have hR' := hR _ _ hP
  simp [b_with_fewer, n_with_fewer, Qn.d, e_Question, -Bool.exists_bool]
  have := hq.liars
  exact ⟨lessS q, rfl, ⟨n, hn, hq.moment, hq.len, hq.root, ⟨by show 0 ≤ q.liars - 1; omega, by show q.liars - 1 ≤ 2; omega⟩, hq.share, hq.earliest, hq.latest⟩, hR'⟩
theorem d_make_steps : Does n_make_steps 3 b_make_steps p_make_steps := does fun ds M P ⟨us, hn, l, h1, hu, hl, hP⟩ => by
  subst h1
  refine ⟨rfl, fun R hR hR2 => ?_⟩
  simp [b_make_steps, n_make_steps, e_add_any, -Bool.exists_bool]
  intro a ha
  unfold makeSteps at hP
  refine ⟨l, hl, a, us, hn, [], [], rfl, hu, by simp; omega, Mem.set_same, ?_, ?_⟩
  · have : 5 ^ (l + 1) ≤ 5 ^ 3 := Nat.pow_le_pow_right (by decide) (by omega)
    simp only [List.length_nil]; omega
  · simp only [List.length_nil]
    cases hc : addS us hn l [] 0 with
    | inl q =>
      rw [hc] at hP
      simp only [] at hP ⊢
      intro M' hM'
      simp [dN]
      refine hR2 _ _ M (fun b d h => hM' b d (fun e => by subst e; rw [ha] at h; cases h) (by rw [Mem.set_ne (fun e => by subst e; rw [ha] at h; cases h)]; exact h)) ?_
      exact hP
    | inr st =>
      rw [hc] at hP
      simp only [] at hP ⊢
      intro M' ys hM' hMa ⟨as, r1, r2, r3, r4, r5⟩
      have hlen : st.length ≤ 5 ^ 3 := by
        obtain ⟨mk, b⟩ := add_blk (fun u h => (hu.all u h).len) l [] 0 st hc
        have := b.size
        have : 5 ^ (l + 1) ≤ 5 ^ 3 := Nat.pow_le_pow_right (by decide) (by omega)
        omega
      simp [-Bool.exists_bool]
      refine ⟨_, hMa, ?_⟩
      rw [List.nil_append, r2]
      refine lc_map (st.zip as) _ (fun x => dBl (bsOf x.1)) (by rw [List.length_zip]; omega) (fun Ma hle x hx => ?_) ?_
      · have h5 := hle _ _ (r5 x hx)
        simp [bi_tupA h5, dBl, bsOf, dP]
        intro E hE
        exact hE
      · have e : ((st.zip as).map fun x => dBl (bsOf x.1)) = (st.map bsOf).map dBl := by
          rw [List.map_map]
          have : (st.zip as).map (fun x => dBl (bsOf x.1)) = ((st.zip as).map Prod.fst).map (fun x => dBl (bsOf x)) := by rw [List.map_map]; rfl
          rw [this, List.map_fst_zip (by omega)]; rfl
        rw [e, bi_tupL]
        refine hR2 _ _ M (fun b d h => hM' b d (fun e => by subst e; rw [ha] at h; cases h) (by rw [Mem.set_ne (fun e => by subst e; rw [ha] at h; cases h)]; exact h)) ?_
        exact hP
theorem d_make_paper : Does n_make_paper 7 b_make_paper p_make_paper := does fun ds M P ⟨n, s, q, rs, ks, ts, b, hn, h1, hs, hq, hr, hk, ht, hb, hP⟩ => by
  subst h1
  refine ⟨rfl, fun R hR _ => ?_⟩
  have hql := hq.liars
  simp [b_make_paper, n_make_paper, e_judge_known, -Bool.exists_bool]
  refine ⟨n, s, q, rs, _, ks, rfl, rfl, hs, hq, hr, hk, ?_⟩
  unfold mpaper at hP
  cases hj : jknown s q rs ks with
  | none =>
    rw [hj] at hP
    simp [dHs]
    exact hR _ _ (hP .non rfl)
  | some held =>
    rw [hj] at hP
    have hh := jknown_ok hr hk hj
    simp only [] at hP
    simp [dHs, e_used_by, -Bool.exists_bool]
    refine ⟨n, s, q, rs, held, _, ts, b, rfl, rfl, hs, hq, hr, hh, ht, hb, ?_⟩
    have hu := used_ok (s := s) (q := q) (b := b) hr hh ht
    simp [Qn.d, e_make_steps, -Bool.exists_bool]
    refine ⟨usedBy s q rs held ts b, hn, q.liars.toNat, ?_, hu, by omega, ?_⟩
    · have : ((q.liars.toNat : Nat) : Int) = q.liars := by omega
      rw [this]
    · cases hm : makeSteps (usedBy s q rs held ts b) hn q.liars.toNat with
      | inl path =>
        rw [hm] at hP
        simp [dMs]
        exact hR _ _ (hP (dN path) rfl)
      | inr st =>
        rw [hm] at hP
        simp [dMs, e_Paper, -Bool.exists_bool]
        exact ⟨⟨ks, ts, st⟩, by simp [aP], trivial, hR _ _ (hP _ rfl)⟩
theorem d_judge_paper : Does n_judge_paper 6 b_judge_paper p_judge_paper := does fun ds M P ⟨n, s, q, rs, ks, ts, b, hn, p, h1, hs, hq, hr, hk, ht, hb, hm, hP⟩ => by
  subst h1
  refine ⟨rfl, fun R hR _ => ?_⟩
  have hR' := hR _ _ hP
  have hql := hq.liars
  unfold mpaper at hm
  cases hj : jknown s q rs ks with
  | none => rw [hj] at hm; cases hm
  | some held =>
    rw [hj] at hm
    simp only [] at hm
    have hh := jknown_ok hr hk hj
    have hu := used_ok (s := s) (q := q) (b := b) hr hh ht
    unfold makeSteps at hm
    cases hst : addS (usedBy s q rs held ts b) hn q.liars.toNat [] 0 with
    | inl path => rw [hst] at hm; cases hm
    | inr st =>
      rw [hst] at hm
      cases hm
      simp [b_judge_paper, n_judge_paper, Ppr.d, e_judge_known, -Bool.exists_bool]
      refine ⟨n, s, q, rs, _, ks, rfl, rfl, hs, hq, hr, hk, ?_⟩
      rw [hj]
      simp [dHs, e_used_by, -Bool.exists_bool]
      refine ⟨n, s, q, rs, held, _, ts, b, rfl, rfl, hs, hq, hr, hh, ht, hb, ?_⟩
      simp [Qn.d, e_blames_right, -Bool.exists_bool]
      refine ⟨usedBy s q rs held ts b, hn, q.liars.toNat, st, ?_, hu, by omega, hst, hR'⟩
      have : ((q.liars.toNat : Nat) : Int) = q.liars := by omega
      rw [this]; simp
theorem d_shown_in : Does n_shown_in 4 b_shown_in p_shown_in := does fun ds M P ⟨s, q, r, h1, hP⟩ => by
  subst h1
  refine ⟨rfl, fun R hR _ => ?_⟩
  simp [b_shown_in, n_shown_in, -Bool.exists_bool]
  exact hR _ _ hP
theorem others_ok {n : Nat} {src : Str} {rs : List Rw} (h : RsOk n rs) : RsOk n (othersS src rs) := ⟨Nat.le_trans (List.length_filter_le _ _) h.len, fun r hr => h.all r (List.mem_filter.mp hr).1⟩
theorem less_ok {n : Nat} {q : Qn} (hq : QOk n q) (hl : 1 ≤ q.liars) : QOk n (lessS q) := by
  have := hq.liars
  exact ⟨hq.moment, hq.len, hq.root, ⟨by show 0 ≤ q.liars - 1; omega, by show q.liars - 1 ≤ 2; omega⟩, hq.share, hq.earliest, hq.latest⟩
theorem root_box {n : Nat} {q : Qn} (hq : QOk n q) : BOk (n + 1) q.root := ⟨hq.len, hq.root.sub (by omega)⟩
theorem d_cannot_lie : Does n_cannot_lie 5 b_cannot_lie p_cannot_lie := does fun ds M P ⟨n, s, q, rs, src, c, h1, hs, hq, hr, hl, hm, hP⟩ => by
  subst h1
  refine ⟨rfl, fun R hR _ => ?_⟩
  have hR' := hR _ _ hP
  have n3 : n ≤ 3 := by have := hs.n23; omega
  cases c with
  | none =>
    simp [b_cannot_lie, n_cannot_lie, dPp, -Bool.exists_bool]
    exact hR'
  | some p =>
    have hl := hl (by simp)
    obtain ⟨ks, ts, hk, ht, e⟩ := hm
    have g : ¬ q.liars < 1 := by omega
    have hrl := hr.len
    simp [b_cannot_lie, n_cannot_lie, dPp, Ppr.d, Qn.d, dRs, g, -Bool.exists_bool]
    refine lc_filter rs _ (fun r => !decide (r.2.source = src)) dRw (by omega) (fun Ma hle r hr' => ?_) ?_
    · simp [dRw, Rdg.d]
    · simp [e_with_fewer, -Bool.exists_bool]
      refine ⟨n, q, rfl, n3, hq, hl, ?_⟩
      simp [e_judge_paper_0, -Bool.exists_bool]
      exact ⟨n, s, lessS q, othersS src rs, ks, ts, q.root, [], p, rfl, hs, less_ok hq hl, others_ok hr, hk, ht, root_box hq, e, hR'⟩
theorem d_standing : Does n_standing 8 b_standing p_standing := does fun ds M P ⟨n, s, q, rs, src, m, c, h1, hs, hq, hr, hl, hm, hc, hP⟩ => by
  subst h1
  refine ⟨rfl, fun R hR _ => ?_⟩
  have hR' := hR _ _ hP
  have rest : ∀ (K : D → Mem → Prop), K (.bl m.isSome) M → wpE (.and (.notN (.var 4)) (.call e_judge_paper_h (.cons (.var 0) (.cons (.var 1) (.cons (.var 2) (.cons (.var 4) (.cons (.attr (.var 1) 11) .nil))))) (.cons (.tup (.cons (.var 3) .nil)) .nil)))
      [some s.d, some q.d, some (dRs rs), some (.str src), some (dPp m), some (dPp c), some .non, some .non, none, none, none, none] M K := by
    intro K hK
    cases m with
    | none => simp [dPp]; exact hK
    | some p =>
      obtain ⟨ks, ts, hk, ht, e⟩ := hm
      simp [dPp, Ppr.d, Qn.d, e_judge_paper_h, -Bool.exists_bool]
      exact ⟨n, s, q, rs, ks, ts, q.root, [src], p, rfl, hs, hq, hr, hk, ht, root_box hq, e, hK⟩
  show wpSs b_standing [some s.d, some q.d, some (dRs rs), some (.str src), some (dPp m), some (dPp c), some .non, some .non, none, none, none, none] M _
  unfold b_standing
  rw [w_scons, w_asg]
  refine rest _ ?_
  simp [e_cannot_lie, e_shown_in, e_Standing, -Bool.exists_bool]
  refine ⟨n, s, q, rs, src, c, rfl, hs, hq, hr, hl, hc, ?_⟩
  simp [-Bool.exists_bool]
  refine ⟨_, _, _, rfl, ?_⟩
  simp [-Bool.exists_bool]
  refine ⟨_, _, _, rfl, ?_⟩
  simp [-Bool.exists_bool]
  exact ⟨(_, _, _, _), rfl, trivial, hR'⟩
end Sp
end
section
set_option Elab.async false
set_option linter.all false
set_option maxRecDepth 100000
/-! Walks: the law's case, papers made, the law. -/
namespace Sp
open PySem L2
theorem rowsS_len (ns : List Int) : (rowsS ns 15).length = 15 := by simp [rowsS]
theorem row0 (ns : List Int) : (rowsS ns 15).getD 0 0 = cellS ns 0 := by simp [rowsS]
theorem slice_rows {ns : List Int} {k l : Nat} {i j : Int} (hi : i = (k : Int)) (hj : j = (l : Int)) : cutA ((rowsS ns 15).map D.int) (some i) (some j) = (((rowsS ns 15).drop k).take (l - k)).map D.int := by
  rw [cut_N hi hj, List.map_take, List.map_drop]
theorem many_bd (ns : List Int) : 0 ≤ manyS ns ∧ manyS ns ≤ 2 := by
  have := mod_bd (cellS ns 0 / 300) (m := 3) (by decide)
  unfold manyS; omega
theorem names_take {k : Nat} (h : k ≤ 4) : cutA (names5.map D.str) none (some (k : Int)) = (names5.take k).map D.str := by
  rw [cut_hiN (k := k) rfl (by simpa [names5] using h), List.map_take]
theorem names_drop {k : Nat} (h : k ≤ 4) : cutA (names5.map D.str) (some ((4 : Int) - (k : Int))) none = (names5.drop (4 - k)).map D.str := by
  rw [cut_loN (k := 4 - k) (by omega) (by simp [names5]), List.map_drop]
theorem liars_eq (ns : List Int) : liarsS ns = if cellS ns 0 / 7 % 2 = 1 then names5.drop (4 - (manyS ns).toNat) else names5.take (manyS ns).toNat := by
  have := many_bd ns
  unfold liarsS
  have e : (4 - manyS ns).toNat = 4 - (manyS ns).toNat := by omega
  rw [e]; rfl
set_option maxHeartbeats 1000000 in
theorem d_law_case : Does n_law_case 1 b_law_case p_law_case := does fun ds M P ⟨ns, h1, hl, hP⟩ => by
  subst h1
  refine ⟨rfl, fun R hR hR2 => ?_⟩
  have rl := rowsS_len ns
  have at_ : ∀ k : Nat, k < 15 → atI ((rowsS ns 15).map D.int) (k : Int) = some (.int ((rowsS ns 15).getD k 0)) := fun k hk => at_pt (by omega)
  have a0 : atI ((rowsS ns 15).map D.int) 0 = some (.int (cellS ns 0)) := by rw [← row0]; exact at_ 0 (by omega)
  have mb := many_bd ns
  have s14 : cutA ((rowsS ns 15).map D.int) (some 1) (some 4) = (((rowsS ns 15).drop 1).take 3).map D.int := slice_rows (k := 1) (l := 4) rfl rfl
  have s512 : cutA ((rowsS ns 15).map D.int) (some 5) (some 12) = (((rowsS ns 15).drop 5).take 7).map D.int := slice_rows (k := 5) (l := 12) rfl rfl
  have s1315 : cutA ((rowsS ns 15).map D.int) (some 13) (some 15) = (((rowsS ns 15).drop 13).take 2).map D.int := slice_rows (k := 13) (l := 15) rfl rfl
  show wpSs t_law_case_14 [some (.scr ns), none, none, none, none, none, none, none, none, none, none, none] M _
  simp [t_law_case_14, e_law_rows, -Bool.exists_bool]
  refine ⟨ns, 15, rfl, hl, by omega, ?_⟩
  simp [t_law_case_13, dL, a0, e_law_setting, -Bool.exists_bool]
  refine ⟨_, rfl, fun n s hs => ?_⟩
  have n23 := hs.n23
  simp only [t_law_case_12, w_scons, w_asg, w_call, w_cons, w_nil, w_var, w_slB, w_int]
  refine ⟨_, rfl, _, rfl, _, rfl, _, rfl, ?_⟩
  rw [sl_lst, s14]
  refine ⟨n, s, ((rowsS ns 15).drop 1).take 3, rfl, hs, by simp [rl], fun w hw => ?_⟩
  show wpSs t_law_case_11 [some (.scr ns), some (.lst ((rowsS ns 15).map D.int)), some s.d, some w.d, none, none, none, none, none, none, none, none] M _
  rw [t_law_case_11, w_scons, w_asg, w_attr]
  refine ⟨_, rfl, 0, _, rfl, 0, rfl, _, rfl, ?_⟩
  show wpSs t_law_case_10 [some (.scr ns), some (.lst ((rowsS ns 15).map D.int)), some s.d, some w.d, some (.int s.dims), none, none, none, none, none, none, none] M _
  rw [hs.dims]
  simp [t_law_case_10, -Bool.exists_bool]
  have en : D.lst [.str "a", .str "b", .str "c-1", .str "d_"] = .lst (names5.map D.str) := rfl
  rw [en]
  simp [t_law_case_9, a0, -Bool.exists_bool]
  have em : cellS ns 0 / 300 % 3 = manyS ns := rfl
  rw [em]
  have emk : manyS ns = ((manyS ns).toNat : Int) := by omega
  have et : cutA (names5.map D.str) none (some (manyS ns)) = (names5.take (manyS ns).toNat).map D.str := by
    have := names_take (k := (manyS ns).toNat) (by omega)
    rwa [← emk] at this
  have ed : cutA (names5.map D.str) (some (4 - manyS ns)) none = (names5.drop (4 - (manyS ns).toNat)).map D.str := by
    have := names_drop (k := (manyS ns).toNat) (by omega)
    rwa [← emk] at this
  have tail : ∀ z8 z9 z10 z11 : Option D, wpSs t_law_case_5 [some (.scr ns), some (.lst ((rowsS ns 15).map D.int)), some s.d, some w.d, some (.int (n : Nat)), some (.lst (names5.map D.str)), some (.int (manyS ns)), some (.lst ((liarsS ns).map D.str)), z8, z9, z10, z11] M { nx := fun x M' => R D.non M', rt := R } := by
    intro z8 z9 z10 z11
    have a4 := at_ 4 (by omega)
    have a12 := at_ 12 (by omega)
    simp [t_law_case_5, e_law_question, -Bool.exists_bool]
    refine ⟨_, a4, ?_⟩
    refine ⟨n, s, w, _, _, rfl, n23, hw, mb, fun q hq hql hin => ?_⟩
    have m8 := mod_bd ((rowsS ns 15).getD 12 0 / 3) (m := 8) (by decide)
    simp only [t_law_case_4, w_scons, w_asg, w_call, w_cons, w_nil, w_var, w_slB, w_int, w_op, w_bi, w_idx]
    refine ⟨_, rfl, _, rfl, _, rfl, _, rfl, _, rfl, ?_⟩
    rw [sl_lst, s512]
    refine ⟨_, rfl, _, rfl, _, rfl, _, a12, ⟨by omega, by omega⟩, ?_⟩
    simp only [bi_intI, op_mod]
    refine ⟨by omega, _, rfl, _, rfl, ?_⟩
    refine ⟨n, s, w, ((rowsS ns 15).drop 5).take 7, ((rowsS ns 15).getD 12 0 / 3 % 8).toNat, liarsS ns, ?_, n23, hw, by omega, by simp [rl], fun rs hr hr7 ht => ?_⟩
    · have : ((((rowsS ns 15).getD 12 0 / 3 % 8).toNat : Nat) : Int) = (rowsS ns 15).getD 12 0 / 3 % 8 := by omega
      rw [this]; rfl
    · simp only [t_law_case_3, w_scons, w_asg, w_call, w_cons, w_nil, w_var, w_slB, w_int]
      refine ⟨_, rfl, _, rfl, _, rfl, _, rfl, _, rfl, ?_⟩
      rw [sl_lst, s1315]
      refine ⟨_, rfl, ?_⟩
      refine ⟨n, q, rs, ((rowsS ns 15).drop 13).take 2, rfl, by omega, hq, hr, hr7, by simp [rl], fun p hp => ?_⟩
      · simp only [t_law_case_2, w_scons, w_asg, w_op, w_bi, w_cons, w_nil, w_var, w_int, w_idx]
        refine ⟨_, rfl, _, rfl, _, rfl, _, a12, ⟨by omega, by omega⟩, ?_⟩
        simp only [bi_intI, op_mod]
        refine ⟨by omega, ?_⟩
        simp [t_law_case_1, e_law_at, -Bool.exists_bool]
        simp [Qn.d, -Bool.exists_bool]
        have hqm := hq.moment
        refine ⟨n, s, w, _, rfl, by omega, hw, hqm, ?_⟩
        exact hR _ _ (hP n s q rs p w _ _ ⟨hs, hq, hr, hp, hw, hql, hin, ht⟩)
  simp [t_law_case_8, et, -Bool.exists_bool]
  simp [t_law_case_7, a0, -Bool.exists_bool]
  have hle := liars_eq ns
  by_cases c : cellS ns 0 / 7 % 2 = 1
  · rw [if_pos c] at hle
    rw [hle] at tail
    rw [if_pos c]
    simp only [t_law_case_6, w_scons, w_asg, w_slLo, w_var, w_op, w_int, w_snil]
    refine ⟨_, rfl, _, rfl, ?_⟩
    simp only [op_sub]
    refine ⟨_, rfl, ?_⟩
    rw [sl_lst, ed]
    exact tail none none none none
  · rw [if_neg c] at hle
    rw [hle] at tail
    rw [if_neg c, List.map_take] at *
    exact tail none none none none
end Sp
end
section
set_option Elab.async false
set_option linter.all false
set_option maxRecDepth 100000
/-! Walks: papers made by the law, the law. -/
namespace Sp
open PySem L2
theorem trees_ok {n : Nat} {rs : List Rw} {k : Nat} (hr : RsOk n rs) (hk : k ≤ 800) : TsOk (madeTrees rs k) := by
  have := hr.len
  refine ⟨by simp [madeTrees]; omega, fun t ht => ?_⟩
  unfold madeTrees at ht
  rcases List.mem_append.mp ht with h | h
  · obtain ⟨r, _, rfl⟩ := List.mem_map.mp h; simp
  · obtain ⟨r, _, rfl⟩ := List.mem_map.mp h; simp
theorem d_law_made : Does n_law_made 5 b_law_made p_law_made := does fun ds M P ⟨n, s, q, rs, p, hn, h1, hs, hq, hr, hp, hP⟩ => by
  subst h1
  refine ⟨rfl, fun R hR hR2 => ?_⟩
  have hrl := hr.len
  show wpSs t_law_made_6 [some s.d, some q.d, some (dRs rs), some p.d, some (dN hn), none, none, none, none, none] M _
  simp [t_law_made_6, e_know, -Bool.exists_bool]
  refine ⟨n, s, q, rs, p, rfl, hs, hq, hr, hp, fun a ks u v ha hk hk4 => ?_⟩
  simp [Mem.set_same, Mem.set_del ha]
  have hkl := hk.len
  simp only [t_law_made_5, w_scons, w_asg, w_op, w_lc, w_seq, w_var, w_rng1, w_bi, w_cons, w_nil]
  refine ⟨_, rfl, _, rfl, ?_⟩
  refine lc_map rs _ (fun r => dT [Stp.reading r.1]) (by omega) (fun Ma hle r hr' => ?_) ?_
  · simp [dRw, dT, Stp.d]
  · refine ⟨_, rfl, ?_⟩
    rw [bi_lenL]
    refine ⟨ks.length, by simp, by omega, ?_⟩
    refine lc_map (List.range ks.length) _ (fun k => dT [Stp.known (k : Nat)]) (by rw [List.length_range]; omega) (fun Ma hle r hr' => ?_) ?_
    · simp [dT, Stp.d]
    · rw [op_addL]
      refine ⟨by simp; omega, ?_⟩
      have et : (rs.map fun r => dT [Stp.reading r.1]) ++ ((List.range ks.length).map fun (k : Nat) => dT [Stp.known (k : Nat)]) = (madeTrees rs ks.length).map dT := by
        unfold madeTrees
        rw [List.map_append, List.map_map, List.map_map]; rfl
      rw [et]
      simp [t_law_made_4, Qn.d, e_make_paper, -Bool.exists_bool]
      have hto : TsOk (madeTrees rs ks.length) := trees_ok hr (by omega)
      refine ⟨n, s, q, rs, ks, madeTrees rs ks.length, q.root, hn, rfl, hs, hq, hr, hk, hto, root_box hq, fun r hrr => ?_⟩
      cases hm : mpaper s q rs ks (madeTrees rs ks.length) q.root hn with
      | none =>
        rw [hm] at hrr
        have hrr : paperD r = some false := hrr
        simp [t_law_made_3, hrr, t_law_made_1]
        exact hR _ _ (hP none trivial)
      | some pp =>
        rw [hm] at hrr
        have hrr : r = pp.d := hrr
        subst hrr
        have : paperD pp.d = some true := rfl
        simp [t_law_made_3, this, t_law_made_2]
        exact hR _ _ (hP (some pp) ⟨ks, _, hk, hto, hm⟩)
theorem liars_nd (ns : List Int) : (liarsS ns).Nodup := by
  rw [liars_eq]
  have h : names5.Nodup := by decide
  split
  · exact h.sublist (List.drop_sublist _ _)
  · exact h.sublist (List.take_sublist _ _)
theorem liars_len (ns : List Int) : ((liarsS ns).length : Int) = manyS ns := by
  have := many_bd ns
  rw [liars_eq]
  have h4 : names5.length = 4 := rfl
  split
  · rw [List.length_drop, h4]; omega
  · rw [List.length_take, h4]; omega
theorem d_law : Does n_law 1 b_law p_law := does fun ds M P ⟨ns, h1, hl, hP⟩ => by
  subst h1
  refine ⟨rfl, fun R hR hR2 => ?_⟩
  have hR' := hR _ _ hP
  have rl := rowsS_len ns
  have a0 : atI ((rowsS ns 15).map D.int) 0 = some (.int (cellS ns 0)) := by rw [← row0]; exact at_pt (k := 0) (by omega)
  have mb := many_bd ns
  show wpSs t_law_22 [some (.scr ns), none, none, none, none, none, none, none, none, none, none, none, none, none, none, none, none, none] M _
  simp [t_law_22, e_law_case, -Bool.exists_bool]
  refine ⟨ns, rfl, hl, fun n s q rs p w st th C => ?_⟩
  have hql := C.many
  simp [t_law_21, e_law_rows, -Bool.exists_bool]
  refine ⟨ns, 15, rfl, hl, by omega, ?_⟩
  simp [t_law_20, -Bool.exists_bool]
  have en : D.lst [.str "a", .str "b", .str "c-1", .str "d_"] = .lst (names5.map D.str) := rfl
  rw [en]
  simp [t_law_19, dL, a0, -Bool.exists_bool]
  have em : cellS ns 0 / 300 % 3 = manyS ns := rfl
  rw [em]
  have emk : manyS ns = ((manyS ns).toNat : Int) := by omega
  have et : cutA (names5.map D.str) none (some (manyS ns)) = (names5.take (manyS ns).toNat).map D.str := by
    have := names_take (k := (manyS ns).toNat) (by omega)
    rwa [← emk] at this
  have ed : cutA (names5.map D.str) (some (4 - manyS ns)) none = (names5.drop (4 - (manyS ns).toNat)).map D.str := by
    have := names_drop (k := (manyS ns).toNat) (by omega)
    rwa [← emk] at this
  have hTru : Tru w (liarsS ns) rs := C.truth
  have hll := liars_len ns
  have tail : ∀ (less : Qn), (0 < manyS ns → less = lessS q) → wpSs t_law_12 [some (.scr ns), some s.d, some q.d, some (dRs rs), some p.d, some (.int st), some th, some (.lst ((rowsS ns 15).map D.int)), some (.lst (names5.map D.str)), some (.int (manyS ns)), some (.lst ((liarsS ns).map D.str)), some less.d, none, none, none, none, none, none] M { nx := fun x M' => R D.non M', rt := R } := by
    intro less hless
    simp [t_law_12, -Bool.exists_bool]
    refine for_map names5 _ (fun i ρ' M' => M' = M ∧ ∃ z12 z13 z14 z15 z16 z17, ρ' = [some (.scr ns), some s.d, some q.d, some (dRs rs), some p.d, some (.int st), some th, some (.lst ((rowsS ns 15).map D.int)), some (.lst (names5.map D.str)), some (.int (manyS ns)), some (.lst ((liarsS ns).map D.str)), some less.d, z12, z13, z14, z15, z16, z17]) ⟨rfl, _, _, _, _, _, _, rfl⟩ ?_ ?_
    · rintro i src ρ' M' hi ⟨rfl, z12, z13, z14, z15, z16, z17, rfl⟩
      simp [t_law_11, e_law_made, -Bool.exists_bool]
      refine ⟨n, s, q, rs, p, [src], rfl, C.oks, C.okq, C.okr, C.okp, fun m hm => ?_⟩
      have hrl := C.okr.len
      simp [t_law_10, dRs, -Bool.exists_bool]
      refine lc_filter rs _ (fun r => !decide (r.2.source = src)) dRw (by omega) (fun Ma hle r hr' => ?_) ?_
      · simp [dRw, Rdg.d]
      · have eo : D.lst ((rs.filter fun r => !decide (r.2.source = src)).map dRw) = dRs (othersS src rs) := rfl
        rw [eo]
        have last : ∀ (c : Option Ppr) (z16 : Option D), (c ≠ none → 1 ≤ q.liars) → Made s (lessS q) (othersS src rs) [] n c → wpSs t_law_6 [some (.scr ns), some s.d, some q.d, some (.lst (rs.map dRw)), some p.d, some (.int st), some th, some (.lst ((rowsS ns 15).map D.int)), some (.lst (names5.map D.str)), some (.int (manyS ns)), some (.lst ((liarsS ns).map D.str)), some less.d, some (.str src), some (dPp m), some (dRs (othersS src rs)), some (dPp c), z16, z17] M'
            { nx := fun ρ' M'' => M'' = M' ∧ ∃ z12 z13 z14 z15 z16 z17, ρ' = [some (.scr ns), some s.d, some q.d, some (.lst (rs.map dRw)), some p.d, some (.int st), some th, some (.lst ((rowsS ns 15).map D.int)), some (.lst (names5.map D.str)), some (.int (manyS ns)), some (.lst ((liarsS ns).map D.str)), some less.d, z12, z13, z14, z15, z16, z17], rt := R,
              bk := fun ρ1 M1 => wpSs t_law_1 ρ1 M1 { nx := fun x M' => R D.non M', rt := R }, ct := fun ρ' M'' => M'' = M' ∧ ∃ z12 z13 z14 z15 z16 z17, ρ' = [some (.scr ns), some s.d, some q.d, some (.lst (rs.map dRw)), some p.d, some (.int st), some th, some (.lst ((rowsS ns 15).map D.int)), some (.lst (names5.map D.str)), some (.int (manyS ns)), some (.lst ((liarsS ns).map D.str)), some less.d, z12, z13, z14, z15, z16, z17] } := by
          intro c z16 hc hcm
          have hmust := must_snd (ls := liarsS ns) (src := src) C.oks C.okw C.okr hTru C.inn (by rw [hql, hll]) hm
          have hcan := cannot_snd (ls := liarsS ns) (src := src) C.oks C.okw C.okr hTru C.inn (by rw [hql, hll]) (liars_nd ns) hcm
          have nm : noneD (dPp m) = !m.isSome := by cases m <;> rfl
          have nc : noneD (dPp c) = !c.isSome := by cases c <;> rfl
          simp [t_law_6, e_standing, -Bool.exists_bool]
          refine ⟨n, s, q, rs, src, m, c, rfl, C.oks, C.okq, C.okr, hc, hm, hcm, ?_⟩
          have fin3 : wpSs t_law_3 [some (.scr ns), some s.d, some q.d, some (.lst (rs.map dRw)), some p.d, some (.int st), some th, some (.lst ((rowsS ns 15).map D.int)), some (.lst (names5.map D.str)), some (.int (manyS ns)), some (.lst ((liarsS ns).map D.str)), some less.d, some (.str src), some (dPp m), some (dRs (othersS src rs)), some (dPp c), some (.ins 7 [.bl m.isSome, .bl c.isSome, .bl false, .bl false]), z17] M'
            { nx := fun ρ' M'' => M'' = M' ∧ ∃ z12 z13 z14 z15 z16 z17, ρ' = [some (.scr ns), some s.d, some q.d, some (.lst (rs.map dRw)), some p.d, some (.int st), some th, some (.lst ((rowsS ns 15).map D.int)), some (.lst (names5.map D.str)), some (.int (manyS ns)), some (.lst ((liarsS ns).map D.str)), some less.d, z12, z13, z14, z15, z16, z17], rt := R,
              bk := fun ρ1 M1 => wpSs t_law_1 ρ1 M1 { nx := fun x M' => R D.non M', rt := R }, ct := fun ρ' M'' => M'' = M' ∧ ∃ z12 z13 z14 z15 z16 z17, ρ' = [some (.scr ns), some s.d, some q.d, some (.lst (rs.map dRw)), some p.d, some (.int st), some th, some (.lst ((rowsS ns 15).map D.int)), some (.lst (names5.map D.str)), some (.int (manyS ns)), some (.lst ((liarsS ns).map D.str)), some less.d, z12, z13, z14, z15, z16, z17] } := by
            simp [t_law_3, nm, nc]
          have hin : ∀ B : Bool → Prop, B (decide (src ∈ liarsS ns)) → cmpD .isin (.str src) (.lst ((liarsS ns).map D.str)) M' B := fun B hB => c_isin (xs := liarsS ns) rfl (fun ns h => by cases h) (fun ns h => by cases h) hB
          have hnin : ∀ B : Bool → Prop, B (!decide (src ∈ liarsS ns)) → cmpD .notin (.str src) (.lst ((liarsS ns).map D.str)) M' B := fun B hB => c_notin (xs := liarsS ns) rfl (fun ns h => by cases h) hB
          simp only [t_law_5, w_scons, w_iff, w_or, w_and, w_attr, w_var, w_cmp, w_snil]
          by_cases g1 : m.isSome = true
          · have gs := hmust g1
            have g2 : c.isSome = false := by
              cases e : c.isSome with
              | false => rfl
              | true => exact absurd gs (hcan e)
            rw [g1, g2] at fin3 ⊢
            refine ⟨_, rfl, 7, _, rfl, 0, rfl, _, rfl, true, rfl, ?_⟩
            rw [if_pos rfl]
            refine ⟨_, rfl, _, rfl, hnin _ ?_⟩
            refine ⟨false, by simp [gs], ?_⟩
            rw [if_neg (by decide)]
            refine ⟨_, rfl, 7, _, rfl, 1, rfl, _, rfl, false, rfl, ?_⟩
            rw [if_neg (by decide)]
            refine ⟨false, rfl, ?_⟩
            rw [if_neg (by decide)]
            refine ⟨_, rfl, 7, _, rfl, 0, rfl, _, rfl, true, rfl, ?_⟩
            rw [if_pos rfl]
            refine ⟨_, rfl, 7, _, rfl, 1, rfl, _, rfl, false, rfl, ?_⟩
            rw [if_neg (by decide)]
            exact fin3
          · have g1 : m.isSome = false := by simpa using g1
            rw [g1] at fin3 ⊢
            refine ⟨_, rfl, 7, _, rfl, 0, rfl, _, rfl, false, rfl, ?_⟩
            rw [if_neg (by decide)]
            refine ⟨false, rfl, ?_⟩
            rw [if_neg (by decide)]
            rcases (show c.isSome = true ∨ c.isSome = false by cases c.isSome <;> simp) with g2 | g2
            · have gs := hcan g2
              rw [g2] at fin3 ⊢
              refine ⟨_, rfl, 7, _, rfl, 1, rfl, _, rfl, true, rfl, ?_⟩
              rw [if_pos rfl]
              refine ⟨_, rfl, _, rfl, hin _ ?_⟩
              refine ⟨false, by simp [gs], ?_⟩
              rw [if_neg (by decide)]
              refine ⟨_, rfl, 7, _, rfl, 0, rfl, _, rfl, false, rfl, ?_⟩
              rw [if_neg (by decide)]
              refine ⟨false, rfl, ?_⟩
              rw [if_neg (by decide)]
              exact fin3
            · rw [g2] at fin3 ⊢
              refine ⟨_, rfl, 7, _, rfl, 1, rfl, _, rfl, false, rfl, ?_⟩
              rw [if_neg (by decide)]
              refine ⟨false, rfl, ?_⟩
              rw [if_neg (by decide)]
              refine ⟨_, rfl, 7, _, rfl, 0, rfl, _, rfl, false, rfl, ?_⟩
              rw [if_neg (by decide)]
              refine ⟨false, rfl, ?_⟩
              rw [if_neg (by decide)]
              exact fin3
        simp [t_law_9, t_law_8, -Bool.exists_bool]
        by_cases c0 : 0 < manyS ns
        · simp [c0, t_law_7, e_law_made, -Bool.exists_bool]
          have hle := hless c0
          subst hle
          refine ⟨n, s, lessS q, othersS src rs, p, [], by simp [dN], C.oks, less_ok C.okq (by omega), others_ok C.okr, C.okp, fun c hcm => ?_⟩
          have := last c z16 (fun _ => by omega) hcm
          simpa [dRs] using this
        · simp [c0]
          have := last none z16 (fun h => absurd rfl h) trivial
          simpa [dRs, dPp] using this
    · rintro ρ' M' ⟨rfl, z12, z13, z14, z15, z16, z17, rfl⟩
      simp [t_law_1]
      exact hR'
  have hle := liars_eq ns
  have t14 : ∀ ls : List Str, ls = liarsS ns → wpSs t_law_15 [some (.scr ns), some s.d, some q.d, some (dRs rs), some p.d, some (.int st), some th, some (.lst ((rowsS ns 15).map D.int)), some (.lst (names5.map D.str)), some (.int (manyS ns)), some (.lst (ls.map D.str)), none, none, none, none, none, none, none] M { nx := fun x M' => R D.non M', rt := R } := by
    intro ls hls
    subst hls
    simp [t_law_15, t_law_14, -Bool.exists_bool]
    by_cases c0 : 0 < manyS ns
    · simp [c0, t_law_13, Qn.d, e_Question]
      have hok := less_ok C.okq (by omega)
      refine ⟨lessS q, by simp [aQ, lessS, hql], ⟨n, by have := C.oks.n23; omega, hok⟩, ?_⟩
      have := tail (lessS q) (fun _ => rfl)
      simpa [Qn.d, aQ] using this
    · simp [c0]
      exact tail q (fun h => absurd h c0)
  simp only [t_law_18, w_scons, w_asg, w_slHi, w_var]
  refine ⟨_, rfl, _, rfl, _, rfl, ?_⟩
  rw [sl_lst, et]
  simp only [t_law_17, w_scons, w_iff, w_cmp, w_op, w_idx, w_var, w_int]
  refine ⟨_, rfl, _, rfl, _, rfl, _, a0, ⟨by omega, by omega⟩, by omega, ?_⟩
  simp only [c_eqI]
  refine ⟨_, rfl, ?_⟩
  by_cases c : cellS ns 0 / 7 % 2 = 1
  · rw [if_pos c] at hle
    rw [if_pos (by simpa using c)]
    simp only [t_law_16, w_scons, w_asg, w_slLo, w_var, w_op, w_int, w_snil]
    refine ⟨_, rfl, _, rfl, ?_⟩
    simp only [op_sub]
    refine ⟨_, rfl, ?_⟩
    rw [sl_lst, ed]
    exact t14 _ hle.symm
  · rw [if_neg c] at hle
    rw [if_neg (by simpa using c)]
    exact t14 _ hle.symm
end Sp
end
section
set_option Elab.async false
set_option linter.all false
set_option maxRecDepth 100000
/-! Walks: numbers, boxes, spans. -/
namespace Sp
open PySem L2
theorem d_root_down : Does n_root_down 1 b_root_down p_root_down := does fun ds M P ⟨n, h1, h2, h3, hP⟩ => by
  subst h1
  refine ⟨rfl, fun R hR _ => ?_⟩
  simp [b_root_down, n_root_down]
  exact ⟨⟨h2, h3⟩, hR _ _ hP⟩
theorem d_root_up : Does n_root_up 1 b_root_up p_root_up := does fun ds M P ⟨n, h1, h2, h3, hP⟩ => by
  subst h1
  refine ⟨rfl, fun R hR _ => ?_⟩
  have hb := rd_bd h2 h3
  simp [b_root_up, n_root_up, -Bool.exists_bool]
  refine ⟨⟨h2, h3⟩, cm1 (by omega), ?_⟩
  have := hR _ _ hP
  unfold ru at this
  split <;> simp_all
theorem d_nearest : Does n_nearest 2 b_nearest p_nearest := does fun ds M P ⟨n, p, b, h1, hn, hp, hb, hP⟩ => by
  subst h1
  refine ⟨rfl, fun R hR _ => ?_⟩
  simp [b_nearest, n_nearest, dP, dB]
  rw [zw]
  refine for_map _ _ (fun i ρ' M' => M' = M ∧ ∃ x y z, ρ' = [some (D.tup (List.map D.int p)), some (D.tup (List.map dS b)), some (D.int (accS (fun q => gap q.1 q.2 * gap q.1 q.2) (p.zip b) i)), x, y, z]) ?_ ?_ ?_
  · exact ⟨rfl, _, _, _, rfl⟩
  · rintro i ⟨x, s⟩ ρ' M' hi ⟨rfl, x1, y1, z1, rfl⟩
    have hq := List.of_mem_zip (List.mem_of_getElem? hi)
    have h3 := gap_bd (hp.b6 _ hq.1) (hb.bd _ hq.2)
    simp [dS, acc1 hi]
    change CMul (gap x s) (gap x s) ∧ gap x s * gap x s = gap x s * gap x s
    exact ⟨cm1 (by omega), rfl⟩
  · rintro ρ' M' ⟨rfl, x1, y1, z1, rfl⟩
    rw [accN]
    simp
    exact hR _ _ hP
theorem d_farthest : Does n_farthest 2 b_farthest p_farthest := does fun ds M P ⟨n, p, b, h1, hn, hp, hb, hP⟩ => by
  subst h1
  refine ⟨rfl, fun R hR _ => ?_⟩
  simp [b_farthest, n_farthest, dP, dB]
  rw [zw]
  refine for_map _ _ (fun i ρ' M' => M' = M ∧ ∃ x y z, ρ' = [some (D.tup (List.map D.int p)), some (D.tup (List.map dS b)), some (D.int (accS (fun q => fgap q.1 q.2 * fgap q.1 q.2) (p.zip b) i)), x, y, z]) ?_ ?_ ?_
  · exact ⟨rfl, _, _, _, rfl⟩
  · rintro i ⟨x, s⟩ ρ' M' hi ⟨rfl, x1, y1, z1, rfl⟩
    have hq := List.of_mem_zip (List.mem_of_getElem? hi)
    have h3 := fgap_bd (hp.b6 _ hq.1) (hb.bd _ hq.2)
    simp [dS, acc1 hi]
    change CMul (fgap x s) (fgap x s) ∧ fgap x s * fgap x s = fgap x s * fgap x s
    exact ⟨cm1 (by omega), rfl⟩
  · rintro ρ' M' ⟨rfl, x1, y1, z1, rfl⟩
    rw [accN]
    simp
    exact hR _ _ hP
theorem d_between : Does n_between 2 b_between p_between := does fun ds M P ⟨n, b, o, h1, hn, hb, ho, hP⟩ => by
  subst h1
  refine ⟨rfl, fun R hR _ => ?_⟩
  simp [b_between, n_between, dB]
  rw [zw]
  refine for_map _ _ (fun i ρ' M' => M' = M ∧ ∃ x y z, ρ' = [some (D.tup (List.map dS b)), some (D.tup (List.map dS o)), some (D.int (accS (fun q => bgap q.1 q.2 * bgap q.1 q.2) (b.zip o) i)), x, y, z]) ?_ ?_ ?_
  · exact ⟨rfl, _, _, _, rfl⟩
  · rintro i ⟨x, s⟩ ρ' M' hi ⟨rfl, x1, y1, z1, rfl⟩
    have hq := List.of_mem_zip (List.mem_of_getElem? hi)
    have h3 := bgap_bd (hb.bd _ hq.1) (ho.bd _ hq.2)
    simp [dS, acc1 hi]
    change CMul (bgap x s) (bgap x s) ∧ bgap x s * bgap x s = bgap x s * bgap x s
    exact ⟨cm1 (by omega), rfl⟩
  · rintro ρ' M' ⟨rfl, x1, y1, z1, rfl⟩
    rw [accN]
    simp
    exact hR _ _ hP
theorem d_greatest_from : Does n_greatest_from 2 b_greatest_from p_greatest_from := does fun ds M P ⟨n, b, o, h1, hn, hb, ho, hP⟩ => by
  subst h1
  refine ⟨rfl, fun R hR _ => ?_⟩
  simp [b_greatest_from, n_greatest_from, dB]
  rw [zw]
  refine for_map _ _ (fun i ρ' M' => M' = M ∧ ∃ x y z, ρ' = [some (D.tup (List.map dS b)), some (D.tup (List.map dS o)), some (D.int (accS (fun q => ggap q.1 q.2 * ggap q.1 q.2) (b.zip o) i)), x, y, z]) ?_ ?_ ?_
  · exact ⟨rfl, _, _, _, rfl⟩
  · rintro i ⟨x, s⟩ ρ' M' hi ⟨rfl, x1, y1, z1, rfl⟩
    have hq := List.of_mem_zip (List.mem_of_getElem? hi)
    have h3 := ggap_bd (hb.bd _ hq.1) (ho.bd _ hq.2)
    simp [dS, acc1 hi]
    change CMul (ggap x s) (ggap x s) ∧ ggap x s * ggap x s = ggap x s * ggap x s
    exact ⟨cm1 (by omega), rfl⟩
  · rintro ρ' M' ⟨rfl, x1, y1, z1, rfl⟩
    rw [accN]
    simp
    exact hR _ _ hP
theorem d_middle : Does n_middle 1 b_middle p_middle := does fun ds M P ⟨b, h1, hb, hP⟩ => by
  subst h1
  refine ⟨rfl, fun R hR _ => ?_⟩
  simp [b_middle, n_middle, dB]
  refine lc_map b _ (fun s => .int ((s.1 + s.2) / 2)) (by omega) (fun Ma hl a ha => ?_) ?_
  · simp [dS]
  · simp
    have := hR _ _ hP
    simp [dP, mid] at this
    exact this
theorem d_half_side : Does n_half_side 1 b_half_side p_half_side := does fun ds M P ⟨s, h1, hP⟩ => by
  subst h1
  refine ⟨rfl, fun R hR _ => ?_⟩
  simp [b_half_side, n_half_side, dS]
  exact hR _ _ hP
theorem half_bd {s : Sd} (h : -1000000 ≤ s.1 ∧ s.1 ≤ s.2 ∧ s.2 ≤ 1000000) : 0 ≤ half s ∧ half s ≤ 2000000 := by unfold half; omega
theorem rad_bd {n : Nat} {b : Bx} (hn : n ≤ 4) (h : BOk (n + 1) b) : 0 ≤ (b.dropLast.map fun s => half s * half s).sum ∧ (b.dropLast.map fun s => half s * half s).sum ≤ 16000000000000 := by
  have e : (16000000000000 : Int) = 4 * (2000000 * 2000000) := by decide
  rw [e]
  refine sum_bd4 (by rw [h.dl.len]; omega) (by decide) fun s hs => ?_
  have := half_bd (h.dl.bd s hs)
  exact ⟨(sq_bd ⟨by omega, this.2⟩).1, (sq_bd ⟨by omega, this.2⟩).2⟩
theorem d_radius : Does n_radius 1 b_radius p_radius := does fun ds M P ⟨n, b, h1, hn, hb, hP⟩ => by
  subst h1
  refine ⟨rfl, fun R hR _ => ?_⟩
  simp [b_radius, n_radius, dB, cut_last]
  rw [← List.map_dropLast]
  refine lc_map b.dropLast _ (fun s => .int (half s * half s)) (by have := hb.dl.len; omega) (fun Ma hl s ha => ?_) ?_
  · have := half_bd (hb.dl.bd s ha)
    simp [e_half_side]
    intro E hE
    refine ⟨s, rfl, s, rfl, ?_⟩
    simp
    exact ⟨cm1 (by omega), hE⟩
  · have e : (b.dropLast.map fun s => D.int (half s * half s)) = (b.dropLast.map fun s => half s * half s).map D.int := by rw [List.map_map]; rfl
    rw [e]
    refine bi_sum ?_
    have hb := rad_bd (by omega) hb
    simp
    exact ⟨_, rfl, by simpa using hb.1, by have := hb.2; simp at this; omega, by simpa [rad] using hR _ _ hP⟩
theorem d_inside : Does n_inside 2 b_inside p_inside := does fun ds M P ⟨b, o, h1, hb, hP⟩ => by
  subst h1
  refine ⟨rfl, fun R hR _ => ?_⟩
  simp [b_inside, n_inside, dB]
  rw [zw]
  refine lc_map (b.zip o) _ (fun q => .bl (decide (q.2.1 ≤ q.1.1) && decide (q.1.2 ≤ q.2.2))) (by rw [List.length_zip]; omega) (fun Ma hl a ha => ?_) ?_
  · simp [dS, -Bool.exists_bool]
    intro E hE
    split <;> simp_all
  · have e : ((b.zip o).map fun q => D.bl (decide (q.2.1 ≤ q.1.1) && decide (q.1.2 ≤ q.2.2))) = ((b.zip o).map fun q => decide (q.2.1 ≤ q.1.1) && decide (q.1.2 ≤ q.2.2)).map D.bl := by rw [List.map_map]; rfl
    rw [e]
    refine bi_all ?_
    have := hR _ _ hP
    rw [List.all_map]
    exact this
theorem d_is_small : Does n_is_small 2 b_is_small p_is_small := does fun ds M P ⟨b, n, h1, hb, hP⟩ => by
  subst h1
  refine ⟨rfl, fun R hR _ => ?_⟩
  simp [b_is_small, n_is_small, dB]
  refine lc_map b _ (fun s => .bl (decide (s.2 - s.1 ≤ n))) (by omega) (fun Ma hl a ha => ?_) ?_
  · simp [dS]
  · have e : (b.map fun s => D.bl (decide (s.2 - s.1 ≤ n))) = (b.map fun s => decide (s.2 - s.1 ≤ n)).map D.bl := by rw [List.map_map]; rfl
    rw [e]
    refine bi_all ?_
    have := hR _ _ hP
    rw [List.all_map]
    exact this
theorem at_map {α : Type} {f : α → D} {xs : List α} {k : Nat} {i : Int} {a : α} (hi : i = (k : Int)) (h : xs[k]? = some a) : atI (xs.map f) i = some (f a) := atI_nat hi (by rw [List.getElem?_map, h]; rfl)
theorem d_widest : Does n_widest 1 b_widest p_widest := does fun ds M P ⟨b, h1, hb, hne, hP⟩ => by
  subst h1
  refine ⟨rfl, fun R hR _ => ?_⟩
  have hl : 0 < b.length := List.length_pos_iff.mpr hne
  simp [b_widest, n_widest, dB]
  refine ⟨by omega, ?_⟩
  refine for_map _ _ (fun i ρ' M' => M' = M ∧ ∃ (k : Nat) (z : Option D), k < b.length ∧ ρ' = [some (D.tup (List.map dS b)), some (D.int k), z]) ?_ ?_ ?_
  · exact ⟨rfl, 0, _, hl, rfl⟩
  · rintro i a ρ' M' hi ⟨rfl, k, z, hk, rfl⟩
    have h2 : i < ((b.length : Int) - 1).toNat ∧ i = a := by
      have := List.getElem?_eq_some_iff.mp hi
      obtain ⟨h3, h4⟩ := this
      simp at h3 h4
      exact ⟨by omega, h4⟩
    obtain ⟨h2, rfl⟩ := h2
    have h3 : i + 1 < b.length := by omega
    have e1 : atI (b.map dS) (1 + (i : Int)) = some (dS b[i + 1]) := at_map (k := i + 1) (by omega) (List.getElem?_eq_getElem h3)
    have e2 : atI (b.map dS) (k : Int) = some (dS b[k]) := at_map rfl (List.getElem?_eq_getElem hk)
    simp [e1, e2, dS, -Bool.exists_bool]
    split
    · exact ⟨i + 1, h3, by omega⟩
    · exact ⟨k, hk, rfl⟩
  · rintro ρ' M' ⟨rfl, k, z, hk, rfl⟩
    simp
    exact hR _ _ (hP k hk)
theorem d_cut : Does n_cut 3 b_cut p_cut := does fun ds M P ⟨b, x, y, h1, hb, hP⟩ => by
  subst h1
  refine ⟨rfl, fun R hR _ => ?_⟩
  have hR' := hR _ _ hP
  by_cases hx : 0 ≤ x ∧ x < b.length
  · have hk : x.toNat < b.length := by omega
    have e1 : atI (b.map dS) x = some (dS b[x.toNat]) := at_map (k := x.toNat) (by omega) (List.getElem?_eq_getElem hk)
    have e2 : b.getD x.toNat (0, 0) = b[x.toNat] := by rw [List.getD_eq_getElem?_getD, List.getElem?_eq_getElem hk]; rfl
    by_cases hy : b[x.toNat].1 < y ∧ y < b[x.toNat].2
    · have e3 : cutS b x y = some (b.take x.toNat ++ [(b[x.toNat].1, y)] ++ b.drop (x.toNat + 1), b.take x.toNat ++ [(y, b[x.toNat].2)] ++ b.drop (x.toNat + 1)) := by
        unfold cutS; rw [if_pos hx, e2, if_pos hy]
      have e4 : cutA (b.map dS) none (some x) = (b.take x.toNat).map dS := by rw [cut_hiN (k := x.toNat) (by omega) (by simp; omega), List.map_take]
      have e5 : cutA (b.map dS) (some (x + 1)) none = (b.drop (x.toNat + 1)).map dS := by rw [cut_loN (k := x.toNat + 1) (by omega) (by simp; omega), List.map_drop]
      rw [e3] at hR'
      have f1 : (b.take x.toNat).length = x.toNat := by rw [List.length_take]; omega
      have f2 : (b.drop (x.toNat + 1)).length = b.length - (x.toNat + 1) := by rw [List.length_drop]
      simp [b_cut, n_cut, dB, e1, dS, hx, hy, -Bool.exists_bool]
      simp [dS] at e4 e5
      simp [e4, e5]
      simp [dCut, dB, dS] at hR'
      refine ⟨by omega, by omega, by omega, by omega, ?_⟩
      exact hR'
    · have e3 : cutS b x y = none := by unfold cutS; rw [if_pos hx, e2, if_neg hy]
      rw [e3] at hR'
      simp [b_cut, n_cut, dB, e1, dS, hx, -Bool.exists_bool]
      by_cases h5 : b[x.toNat].1 < y
      · have : ¬ y < b[x.toNat].2 := fun h => hy ⟨h5, h⟩
        simp [h5, this]; exact hR'
      · simp [h5]; exact hR'
  · have e3 : cutS b x y = none := by unfold cutS; rw [if_neg hx]
    rw [e3] at hR'
    by_cases h0 : 0 ≤ x
    · have : ¬ x < b.length := fun h => hx ⟨h0, h⟩
      simp [b_cut, n_cut, dB, h0, this, -Bool.exists_bool]; exact hR'
    · simp [b_cut, n_cut, dB, h0, -Bool.exists_bool]; exact hR'
theorem d_halves : Does n_halves 1 b_halves p_halves := does fun ds M P ⟨b, h1, hb, hne, hP⟩ => by
  subst h1
  refine ⟨rfl, fun R hR _ => ?_⟩
  simp [b_halves, n_halves, e_widest, e_cut]
  refine ⟨b, rfl, hb, hne, fun k hk => ?_⟩
  have e2 : atI (b.map dS) (k : Int) = some (dS b[k]) := at_map rfl (List.getElem?_eq_getElem hk)
  simp [dB, e2, dS]
  refine ⟨b, _, _, rfl, hb, hR _ _ (hP _ _)⟩
theorem d_distances : Does n_distances 2 b_distances p_distances := does fun ds M P ⟨n, p, b, h1, hn, hp, hb, hP⟩ => by
  subst h1
  refine ⟨rfl, fun R hR _ => ?_⟩
  have a1 := near_bd (by omega) hp hb
  have a2 := far_bd (by omega) hp hb
  simp [b_distances, n_distances, e_root_down, e_root_up, e_nearest, e_farthest]
  refine ⟨n, p, b, rfl, hn, hp, hb, nearS p b, rfl, a1.1, by omega, n, p, b, rfl, hn, hp, hb, farS p b, rfl, a2.1, by omega, hR _ _ hP⟩
theorem d_dot : Does n_dot 2 b_dot p_dot := does fun ds M P ⟨a, b, h1, hl, hb, hP⟩ => by
  subst h1
  refine ⟨rfl, fun R hR _ => ?_⟩
  simp [b_dot, n_dot, dP]
  rw [zw]
  refine lc_map (a.zip b) _ (fun q => .int (q.1 * q.2)) (by rw [List.length_zip]; omega) (fun Ma hl q hq => ?_) ?_
  · have := hb _ (List.of_mem_zip (a := q.1) (b := q.2) hq).1
    simp
    intro E hE
    exact ⟨cm1 (by omega), hE⟩
  · have e : ((a.zip b).map fun q => D.int (q.1 * q.2)) = ((a.zip b).map fun q => q.1 * q.2).map D.int := by rw [List.map_map]; rfl
    rw [e]
    exact bi_sum (hR _ _ hP)
theorem d_minus : Does n_minus 2 b_minus p_minus := does fun ds M P ⟨a, b, h1, hl, hP⟩ => by
  subst h1
  refine ⟨rfl, fun R hR _ => ?_⟩
  simp [b_minus, n_minus, dP]
  rw [zw]
  refine lc_map (a.zip b) _ (fun q => .int (q.1 - q.2)) (by rw [List.length_zip]; omega) (fun Ma hl q hq => ?_) ?_
  · simp
  · rw [bi_tupL]
    have := hR _ _ hP
    unfold dP minusS at this
    rw [List.map_map] at this
    exact this
theorem d_side_span : Does n_side_span 2 b_side_span p_side_span := does fun ds M P ⟨n, d, b, h1, hn, hd, hb, hP⟩ => by
  subst h1
  refine ⟨rfl, fun R hR _ => ?_⟩
  have hz : (d.zip b).length ≤ 100000 := by rw [List.length_zip, hd.len]; omega
  simp [b_side_span, n_side_span, dP, dB]
  rw [zw]
  refine lc_map (d.zip b) _ (fun q => .int (min (q.1 * q.2.1) (q.1 * q.2.2))) hz (fun Ma hl q hq => ?_) ?_
  · have := hd.bd _ (List.of_mem_zip (a := q.1) (b := q.2) hq).1
    simp [dS]
    intro E hE
    exact ⟨cm1 (by omega), cm1 (by omega), hE⟩
  · have e : ((d.zip b).map fun q => D.int (min (q.1 * q.2.1) (q.1 * q.2.2))) = ((d.zip b).map fun q => min (q.1 * q.2.1) (q.1 * q.2.2)).map D.int := by rw [List.map_map]; rfl
    rw [e]
    refine bi_sum ?_
    refine lc_map (d.zip b) _ (fun q => .int (max (q.1 * q.2.1) (q.1 * q.2.2))) hz (fun Ma hl q hq => ?_) ?_
    · have := hd.bd _ (List.of_mem_zip (a := q.1) (b := q.2) hq).1
      simp [dS]
      intro E hE
      exact ⟨cm1 (by omega), cm1 (by omega), hE⟩
    · have e : ((d.zip b).map fun q => D.int (max (q.1 * q.2.1) (q.1 * q.2.2))) = ((d.zip b).map fun q => max (q.1 * q.2.1) (q.1 * q.2.2)).map D.int := by rw [List.map_map]; rfl
      rw [e]
      refine bi_sum ?_
      exact hR _ _ hP
end Sp
end
section
set_option Elab.async false
set_option linter.all false
set_option maxRecDepth 100000
/-! Walks: _add_steps. -/
namespace Sp
open PySem L2
theorem unmet_entry {us : Us} {p : List Str} {m : Nat} (h : unmet us p = some m) : ∃ ns, some ns ∈ us ∧ entry us m = ns ∧ atI (us.map dU) (m : Int) = some (dN ns) := by
  obtain ⟨ns, h1, h2, _⟩ := unmet_some h
  exact ⟨ns, List.mem_of_getElem? h1, h2, atI_nat rfl (by rw [List.getElem?_map, h1]; rfl)⟩
/-- the loop over the suspects -/
structure AddI (us : Us) (hn : List Str) (l : Nat) (p : List Str) (m : Nat) (a f : Addr) (xs : List D) (M : Mem) (L : List Str) (k : Nat) (M' : Mem) (ys : List D) (ks : List Ns) (fo : List Nat) (as : List Addr) : Prop where
  rem : kids (fun nm s' => addS us hn l (p ++ [nm]) s') L (xs.length + 1) = match kids (fun nm s' => addS us hn l (p ++ [nm]) s') (L.drop k) (xs.length + 1 + ks.length) with | .inl q => .inl q | .inr (ks', fo') => .inr (ks ++ ks', fo ++ fo')
  ma : M' a = some (.lst (xs ++ .tup [.int (m : Nat), .adr f] :: ys))
  mf : M' f = some (.lst (fo.map fun (n : Nat) => .int (n : Int)))
  fr : ∀ b d, b ≠ a → M b = some d → M' b = some d
  alen : as.length = ks.length
  rows : ys = (ks.zip as).map (fun x => .tup [.int (x.1.1 : Nat), .adr x.2])
  nd : as.Nodup
  fresh : ∀ x ∈ as, M x = none ∧ x ≠ f
  cont : ∀ x ∈ ks.zip as, M' x.2 = some (.lst (x.1.2.map fun (n : Nat) => .int (n : Int)))
  size : ks.length ≤ k * 5 ^ (l + 1)
  folen : fo.length = k
theorem ks_len {us : Us} {hn : List Str} (hu : UsOk us) {l : Nat} {p : List Str} {s : Nat} {st : List Ns} (h : addS us hn l p s = .inr st) : st.length ≤ 5 ^ (l + 1) := by
  obtain ⟨mk, b⟩ := add_blk (fun u h => (hu.all u h).len) l p s st h
  have := b.size; omega
theorem rows_len {ks : List Ns} {as : List Addr} {ys : List D} (h : as.length = ks.length) (hy : ys = (ks.zip as).map (fun x => .tup [.int (x.1.1 : Nat), .adr x.2])) : ys.length = ks.length := by rw [hy, List.length_map, List.length_zip]; omega
def adI (us : Us) (hn : List Str) (l : Nat) (p : List Str) (m : Nat) (a f : Addr) (xs : List D) (M : Mem) (L : List Str) (k : Nat) (ρ' : Rho) (M' : Mem) : Prop :=
  ∃ ys ks fo as x7 x8, ρ' = [some (.adr a), some (dUs us), some (dN hn), some (dN p), some (.int ((l + 1 : Nat) : Int)), some (.int (m : Nat)), some (.adr f), x7, x8] ∧ AddI us hn l p m a f xs M L k M' ys ks fo as
theorem d_add_steps0 : Does n_add_steps 5 (b_add_steps e_add_none) (p_add_steps 0) := does fun ds M P ⟨a, us, hn, p, xs, h1, hu, hp, hM, hs, hP⟩ => by
  subst h1
  refine ⟨rfl, fun R hR hR2 => ?_⟩
  simp [b_add_steps, n_add_steps, e_first_unmet, -Bool.exists_bool]
  refine ⟨us, p, rfl, hu, ?_⟩
  unfold addS at hP
  cases hm : unmet us p with
  | none =>
    rw [hm] at hP
    simp [dO]
    exact hR _ _ (hP M fun b d _ h => h)
  | some m =>
    rw [hm] at hP
    simp [dO, -Bool.exists_bool]
    intro f hf
    have hfa : f ≠ a := fun e => by rw [e, hM] at hf; cases hf
    have ha : (M.set f (.lst [])) a = some (.lst xs) := by rw [Mem.set_ne (Ne.symm hfa)]; exact hM
    simp [ha]
    refine ⟨by omega, hR _ _ (hP _ [.tup [.int (m : Nat), .adr f]] (fun b d hb h => ?_) Mem.set_same ⟨[f], rfl, rfl, by simp, by simpa using hf, ?_⟩)⟩
    · rw [Mem.set_ne hb, Mem.set_ne (fun e => by subst e; rw [hf] at h; cases h)]; exact h
    · intro x hx
      rw [List.zip_cons_cons, List.zip_nil_right, List.mem_singleton] at hx
      subst hx
      rw [Mem.set_ne hfa, Mem.set_same]; rfl
theorem d_add_stepsS (l : Nat) : Does n_add_steps 5 (b_add_steps (e_add_steps l)) (p_add_steps (l + 1)) := does fun ds M P ⟨a, us, hn, p, xs, h1, hu, hp, hM, hs, hP⟩ => by
  subst h1
  refine ⟨rfl, fun R hR hR2 => ?_⟩
  simp [b_add_steps, n_add_steps, e_first_unmet, -Bool.exists_bool]
  refine ⟨us, p, rfl, hu, ?_⟩
  unfold addS at hP
  cases hm : unmet us p with
  | none =>
    rw [hm] at hP
    simp [dO]
    exact hR _ _ (hP M fun b d _ h => h)
  | some m =>
    rw [hm] at hP
    simp only [] at hP
    obtain ⟨ns, hns, hent, hat⟩ := unmet_entry hm
    have hnl := (hu.all ns hns).len
    rw [hent] at hP
    simp [dO, -Bool.exists_bool]
    intro f hf
    have hfa : f ≠ a := fun e => by rw [e, hM] at hf; cases hf
    have ha : (M.set f (.lst [])) a = some (.lst xs) := by rw [Mem.set_ne (Ne.symm hfa)]; exact hM
    have h51 : 5 ^ (l + 1 + 1) = 5 * 5 ^ (l + 1) := by rw [Nat.pow_succ]; omega
    have h50 : 5 ≤ 5 ^ (l + 1) := by
      have : 1 ≤ 5 ^ l := Nat.one_le_pow _ _ (by decide)
      rw [Nat.pow_succ]; omega
    have hl0 : ¬ ((l : Int) + 1 = 0) := by omega
    simp [ha, hl0, dUs, hat, e_suspects, -Bool.exists_bool]
    refine ⟨by omega, ns, hn, rfl, by omega, ?_⟩
    simp
    have hsl := susp_len (hn := hn) hnl
    refine for_map (susp ns hn) _ (adI us hn l p m a f xs M (susp ns hn)) ?_ ?_ ?_
    · refine ⟨[], [], [], [], _, _, rfl, ?_, Mem.set_same, ?_, fun b d hb h => ?_, rfl, rfl, by simp, by simp, by simp, by simp, rfl⟩
      · simp only [List.drop_zero, List.length_nil, Nat.add_zero, List.nil_append]
        cases kids (fun nm s' => addS us hn l (p ++ [nm]) s') (susp ns hn) (xs.length + 1) <;> rfl
      · rw [Mem.set_ne hfa, Mem.set_same]; rfl
      · rw [Mem.set_ne hb, Mem.set_ne (fun e => by subst e; rw [hf] at h; cases h)]; exact h
    · rintro k nm ρ' M' hk ⟨ys, ks, fo, as, x7, x8, rfl, A⟩
      have hyl := rows_len A.alen A.rows
      have hkl : k < (susp ns hn).length := (List.getElem?_eq_some_iff.mp hk).1
      have hd' : (susp ns hn).drop k = nm :: (susp ns hn).drop (k + 1) := by
        obtain ⟨h, e⟩ := List.getElem?_eq_some_iff.mp hk
        rw [List.drop_eq_getElem_cons h, e]
      have hrem := A.rem
      rw [hd'] at hrem
      have hsz := A.size
      have hk3 : k * 5 ^ (l + 1) ≤ 3 * 5 ^ (l + 1) := Nat.mul_le_mul_right _ (by omega)
      have hfl := A.folen
      simp [A.mf, bi_lenA A.ma, e_add_steps, -Bool.exists_bool]
      simp [dN, -Bool.exists_bool]
      have hpl := hp
      have hml : M a = some (.lst xs) := hM
      refine ⟨by omega, by omega, ?_⟩
      have hma2 : (M'.set f (.lst (fo.map (fun (n : Nat) => D.int (n : Int)) ++ [.int ((xs.length : Int) + ((ys.length : Int) + 1))]))) a = some (.lst (xs ++ .tup [.int (m : Nat), .adr f] :: ys)) := by rw [Mem.set_ne (Ne.symm hfa)]; exact A.ma
      have hlen2 : (xs ++ D.tup [.int (m : Nat), .adr f] :: ys).length = xs.length + 1 + ks.length := by simp [hyl]; omega
      have hmf2 : (M'.set f (.lst (fo.map (fun (n : Nat) => D.int (n : Int)) ++ [.int ((xs.length : Int) + ((ys.length : Int) + 1))]))) f = some (.lst ((fo ++ [xs.length + 1 + ks.length]).map fun (n : Nat) => .int (n : Int))) := by
        rw [Mem.set_same, List.map_append, hyl]
        have : ((xs.length : Int) + ((ks.length : Int) + 1)) = ((xs.length + 1 + ks.length : Nat) : Int) := by omega
        rw [this]; rfl
      generalize hMM : M'.set f (.lst (fo.map (fun (n : Nat) => D.int (n : Int)) ++ [.int ((xs.length : Int) + ((ys.length : Int) + 1))])) = MM at *
      have hoth : ∀ b, b ≠ f → MM b = M' b := fun b hb => by rw [← hMM, Mem.set_ne hb]
      have hfr : ∀ b d, b ≠ a → M b = some d → MM b = some d := fun b d hb h => by
        rw [hoth b (fun e => by subst e; rw [hf] at h; cases h)]
        exact A.fr b d hb h
      have hkk : kids (fun nm s' => addS us hn l (p ++ [nm]) s') (nm :: (susp ns hn).drop (k + 1)) (xs.length + 1 + ks.length) = match addS us hn l (p ++ [nm]) (xs.length + 1 + ks.length) with
        | .inl q => .inl q
        | .inr st => match kids (fun nm s' => addS us hn l (p ++ [nm]) s') ((susp ns hn).drop (k + 1)) (xs.length + 1 + ks.length + st.length) with
          | .inl q => .inl q
          | .inr (ks', fo') => .inr (st ++ ks', (xs.length + 1 + ks.length) :: fo') := rfl
      rw [hkk] at hrem
      refine ⟨a, us, hn, p ++ [nm], _, by simp [dN], hu, by simp; omega, hma2, by rw [hlen2]; omega, ?_⟩
      rw [hlen2]
      cases hc : addS us hn l (p ++ [nm]) (xs.length + 1 + ks.length) with
      | inl q =>
        rw [hc] at hrem
        simp only [] at hrem
        rw [hrem] at hP
        simp only [] at hP ⊢
        intro M3 h3
        refine ⟨true, by simp [dN], ?_⟩
        rw [if_pos rfl]
        exact hR _ _ (hP M3 fun b d hb h => h3 b d hb (hfr b d hb h))
      | inr st =>
        rw [hc] at hrem
        simp only [] at hrem ⊢
        intro M3 ys' h3 h3a ⟨as', r1, r2, r3, r4, r5⟩
        refine ⟨false, by simp, ?_⟩
        rw [if_neg (by decide)]
        have hsl2 := ks_len hu hc
        refine ⟨ys ++ ys', ks ++ st, fo ++ [xs.length + 1 + ks.length], as ++ as', _, _, rfl, ?_, ?_, ?_, fun b d hb h => h3 b d hb (hfr b d hb h), by simp [A.alen, r1], ?_, ?_, fun x hx => ?_, fun x hx => ?_, ?_, by simp [hfl]⟩
        · rw [hrem, List.length_append]
          have e : xs.length + 1 + (ks.length + st.length) = xs.length + 1 + ks.length + st.length := by omega
          rw [e]
          cases kids (fun nm s' => addS us hn l (p ++ [nm]) s') ((susp ns hn).drop (k + 1)) (xs.length + 1 + ks.length + st.length) with
          | inl q => rfl
          | inr kf => obtain ⟨k1, f1⟩ := kf; simp
        · rw [h3a]; simp
        · exact h3 f _ hfa hmf2
        · rw [A.rows, r2, List.zip_append A.alen.symm, List.map_append]
        · rw [List.nodup_append]
          refine ⟨A.nd, r3, fun x hx y hy e => ?_⟩
          subst e
          obtain ⟨i, hi⟩ := List.mem_iff_getElem?.mp hx
          have hil : i < as.length := (List.getElem?_eq_some_iff.mp hi).1
          have hz : (ks[i]'(by rw [← A.alen]; exact hil), x) ∈ ks.zip as := by
            refine List.mem_of_getElem? (i := i) ?_
            rw [zip_at (by rw [← A.alen]; exact hil) hil]
            have := (List.getElem?_eq_some_iff.mp hi).2
            rw [this]
          have h6 := A.cont _ hz
          have h7 := r4 x hy
          rw [hoth x (A.fresh x hx).2] at h7
          simp only [] at h6
          rw [h7] at h6; cases h6
        · rcases List.mem_append.mp hx with hx | hx
          · exact A.fresh x hx
          · have h7 := r4 x hx
            refine ⟨?_, fun e => by subst e; rw [hmf2] at h7; cases h7⟩
            cases hMx : M x with
            | none => rfl
            | some d =>
              by_cases e : x = a
              · subst e; rw [hma2] at h7; cases h7
              · rw [hfr x d e hMx] at h7; cases h7
        · rw [List.zip_append A.alen.symm] at hx
          rcases List.mem_append.mp hx with hx | hx
          · have h6 := A.cont x hx
            have hxm : x.2 ∈ as := (List.of_mem_zip (a := x.1) (b := x.2) hx).2
            have h8 := A.fresh _ hxm
            refine h3 x.2 _ (fun e => by rw [e, hM] at h8; cases h8.1) ?_
            rw [hoth _ h8.2]; exact h6
          · exact r5 x hx
        · rw [List.length_append, Nat.add_mul]; omega
    · rintro ρ' M' ⟨ys, ks, fo, as, x7, x8, rfl, A⟩
      have hrem := A.rem
      rw [List.drop_length] at hrem
      have hk0 : kids (fun nm s' => addS us hn l (p ++ [nm]) s') [] (xs.length + 1 + ks.length) = .inr ([], []) := rfl
      rw [hk0] at hrem
      simp only [List.append_nil] at hrem
      rw [hrem] at hP
      simp only [] at hP
      refine hR _ _ (hP M' (.tup [.int (m : Nat), .adr f] :: ys) A.fr A.ma ⟨f :: as, by simp [A.alen], by simp [A.rows], ?_, ?_, ?_⟩)
      · rw [List.nodup_cons]
        exact ⟨fun h => (A.fresh f h).2 rfl, A.nd⟩
      · intro x hx
        rcases List.mem_cons.mp hx with e | hx
        · subst e; exact hf
        · exact (A.fresh x hx).1
      · intro x hx
        rw [List.zip_cons_cons] at hx
        rcases List.mem_cons.mp hx with e | hx
        · subst e; exact A.mf
        · exact A.cont x hx
end Sp
end
section
set_option Elab.async false
set_option linter.all false
set_option maxRecDepth 100000
/-! Walks: what __init__ stores, papers made and judged, standings. -/
namespace Sp
open PySem L2
def fldD (x : D) (f : Nat) (d : D) (M2 : Mem) (N : Mem → Prop) : Prop := ∃ p c ds, x = .adr p ∧ M2 p = some (.ins c ds) ∧ fpos c f = some ds.length ∧ N (M2.set p (.ins c (ds ++ [d])))
theorem w_fld2 {ρ : Rho} {M : Mem} {K : Kn} {a f e} : wpS (.fld a f e) ρ M K = wpE e ρ M fun d M1 => wpE a ρ M1 fun x M2 => fldD x f d M2 (K.nx ρ) := rfl
theorem fld_same {p : Addr} {f c : Nat} {ds : List D} {d : D} {M : Mem} {N : Mem → Prop} : fldD (.adr p) f d (M.set p (.ins c ds)) N ↔ fpos c f = some ds.length ∧ N (M.set p (.ins c (ds ++ [d]))) := by
  constructor
  · rintro ⟨p', c', ds', h1, h2, h3, h4⟩
    cases h1
    rw [Mem.set_same] at h2
    cases h2
    rw [Mem.set_set] at h4
    exact ⟨h3, h4⟩
  · rintro ⟨h3, h4⟩
    exact ⟨p, c, ds, rfl, Mem.set_same, h3, by rw [Mem.set_set]; exact h4⟩
theorem set_self {M : Mem} {a : Addr} {d : D} (h : M a = some d) : M = M.set a d := by
  funext b
  by_cases e : b = a
  · subst e; rw [h, Mem.set_same]
  · rw [Mem.set_ne e]
theorem d_Marks_init : Does n_Marks_init 3 b_Marks_init i_Marks := does fun ds M P ⟨a, m, h1, hM, _, hP⟩ => by
  subst h1
  refine ⟨rfl, fun R hR _ => ?_⟩
  rw [set_self hM] at hP ⊢
  have hR' := hR _ _ hP
  simp [b_Marks_init, n_Marks_init, aM, fld_same, w_fld2, -w_fld, Mem.set_set, -Bool.exists_bool] at hR' ⊢
  exact hR'
theorem d_Held_init : Does n_Held_init 4 b_Held_init i_Held := does fun ds M P ⟨a, m, h1, hM, _, hP⟩ => by
  subst h1
  refine ⟨rfl, fun R hR _ => ?_⟩
  rw [set_self hM] at hP ⊢
  have hR' := hR _ _ hP
  simp [b_Held_init, n_Held_init, aH, fld_same, w_fld2, -w_fld, Mem.set_set, -Bool.exists_bool] at hR' ⊢
  exact hR'
theorem d_Known_init : Does n_Known_init 4 b_Known_init i_Known := does fun ds M P ⟨a, m, h1, hM, _, hP⟩ => by
  subst h1
  refine ⟨rfl, fun R hR _ => ?_⟩
  rw [set_self hM] at hP ⊢
  have hR' := hR _ _ hP
  simp [b_Known_init, n_Known_init, aK, fld_same, w_fld2, -w_fld, Mem.set_set, -Bool.exists_bool] at hR' ⊢
  exact hR'
theorem d_Paper_init : Does n_Paper_init 4 b_Paper_init i_Paper := does fun ds M P ⟨a, m, h1, hM, _, hP⟩ => by
  subst h1
  refine ⟨rfl, fun R hR _ => ?_⟩
  rw [set_self hM] at hP ⊢
  have hR' := hR _ _ hP
  simp [b_Paper_init, n_Paper_init, aP, fld_same, w_fld2, -w_fld, Mem.set_set, -Bool.exists_bool] at hR' ⊢
  exact hR'
theorem d_Standing_init : Does n_Standing_init 5 b_Standing_init i_Standing := does fun ds M P ⟨a, m, h1, hM, _, hP⟩ => by
  subst h1
  refine ⟨rfl, fun R hR _ => ?_⟩
  rw [set_self hM] at hP ⊢
  have hR' := hR _ _ hP
  simp [b_Standing_init, n_Standing_init, any4, fld_same, w_fld2, -w_fld, Mem.set_set, -Bool.exists_bool] at hR' ⊢
  exact hR'
theorem d_Row_init : Does n_Row_init 4 b_Row_init i_Row := does fun ds M P ⟨a, m, h1, hM, _, hP⟩ => by
  subst h1
  refine ⟨rfl, fun R hR _ => ?_⟩
  rw [set_self hM] at hP ⊢
  have hR' := hR _ _ hP
  simp [b_Row_init, n_Row_init, any3, fld_same, w_fld2, -w_fld, Mem.set_set, -Bool.exists_bool] at hR' ⊢
  exact hR'
theorem d_Knowing_init : Does n_Knowing_init 5 b_Knowing_init i_Knowing := does fun ds M P ⟨a, s, q, r, p, h1, hM, hP⟩ => by
  subst h1
  refine ⟨rfl, fun R hR _ => ?_⟩
  rw [set_self hM] at hP ⊢
  simp [b_Knowing_init, n_Knowing_init, fld_same, w_fld2, -w_fld, Mem.set_set, -Bool.exists_bool]
  intro x hx
  have hxa : x ≠ a := fun e => by rw [e, Mem.set_same] at hx; cases hx
  rw [Mem.set_ne hxa] at hx
  refine ⟨a, 9, [s, q, r, p], rfl, by rw [Mem.set_ne (Ne.symm hxa), Mem.set_same], by simp, ?_⟩
  intro y hy
  have hya : y ≠ a := fun e => by rw [e, Mem.set_same] at hy; cases hy
  rw [Mem.set_ne hya] at hy
  have hyx : y ≠ x := fun e => by rw [e, Mem.set_same] at hy; cases hy
  rw [Mem.set_ne hyx, Mem.set_ne hya] at hy
  refine ⟨a, 9, [s, q, r, p, .adr x], rfl, by rw [Mem.set_ne (Ne.symm hya), Mem.set_same]; rfl, by simp, ?_⟩
  have := hR _ _ (hP x y hxa hya (Ne.symm hyx) (by rw [Mem.set_ne hxa]; exact hx) (by rw [Mem.set_ne hya]; exact hy))
  have e : (((((M.set a (D.ins 9 [s, q, r, p])).set x (D.lst [])).set a (D.ins 9 ([s, q, r, p] ++ [D.adr x]))).set y (D.lst [])).set a (D.ins 9 ([s, q, r, p, D.adr x] ++ [D.adr y]))) = (((M.set a (.ins 9 [])).set a (.ins 9 [s, q, r, p, .adr x, .adr y])).set x (.lst [])).set y (.lst []) := by
    funext b
    by_cases e1 : b = a
    · subst e1; simp [Mem.set, Ne.symm hxa, Ne.symm hya]
    · by_cases e2 : b = x <;> by_cases e3 : b = y <;> simp_all [Mem.set]
  rw [e]; exact this
theorem d_Setting_init : Does n_Setting_init 5 b_Setting_init i_Setting := does fun ds M P ⟨a, s, h1, hM, ⟨n, hs⟩, hP⟩ => by
  subst h1
  refine ⟨rfl, fun R hR _ => ?_⟩
  rw [set_self hM] at hP ⊢
  have hR' := hR _ _ hP
  have h1 := hs.speed
  have h2 := hs.drift
  have h3 := hs.per
  have h4 : s.dims = 2 ∨ s.dims = 3 := by have := hs.n23; have := hs.dims; omega
  have g1 : 0 ≤ s.speed ∧ s.speed ≤ 1000000000000 := by omega
  have g2 : 0 ≤ s.drift ∧ s.drift ≤ 1000000000000 := by omega
  have g3 : 1 ≤ s.per ∧ s.per ≤ 1000000000000 := by omega
  have hin : (inD (.int s.dims) [.int 2, .int 3]) = true := by
    rcases h4 with e | e <;> rw [e] <;> rfl
  simp [aS, Mem.set_set] at hR'
  simp [b_Setting_init, n_Setting_init, aS, gval, cmpD, hin, flatD, g1.1, g1.2, g2.1, g2.2, g3.1, g3.2, fld_same, w_fld2, -w_fld, Mem.set_set, -Bool.exists_bool]
  exact hR'
theorem d_Reading_init : Does n_Reading_init 8 b_Reading_init i_Reading := does fun ds M P ⟨a, r, h1, hM, ⟨n, hn, hr⟩, hP⟩ => by
  subst h1
  refine ⟨rfl, fun R hR _ => ?_⟩
  rw [set_self hM] at hP ⊢
  have hR' := hR _ _ hP
  have h1 := hr.low
  have h2 := hr.high
  have h3 := hr.late
  have h4 := hr.near
  have h5 := hr.moment
  have g1 : -1000000000000000 ≤ r.low := by omega
  have g2 : r.high ≤ 1000000000000000 := by omega
  have g3 : r.late ≤ 1000000000000 := by omega
  have g4 : r.near ≤ 1000000000000 := by omega
  simp [aR, Mem.set_set] at hR'
  simp [b_Reading_init, n_Reading_init, aR, e_is_name, e_in_room, e_kind_in_bounds, w_fld2, -w_fld, -Bool.exists_bool]
  refine ⟨_, rfl, hr.source, ?_⟩
  simp [w_fld2, -w_fld, -Bool.exists_bool]
  refine ⟨[r.moment], rfl, by simp, by intro x hx; rw [List.mem_singleton] at hx; subst hx; exact h5, ?_⟩
  simp [w_fld2, -w_fld, -Bool.exists_bool]
  refine ⟨n, r.kind, rfl, hn, hr.kind, ?_⟩
  simp [gval, g1, h1.2, g2, h3.1, h4.1, g3, g4, fld_same, w_fld2, -w_fld, Mem.set_set, -Bool.exists_bool]
  exact hR'
theorem d_Question_init : Does n_Question_init 7 b_Question_init i_Question := does fun ds M P ⟨a, q, h1, hM, ⟨n, hn, hq⟩, hP⟩ => by
  subst h1
  refine ⟨rfl, fun R hR _ => ?_⟩
  rw [set_self hM] at hP ⊢
  have hR' := hR _ _ hP
  have h1 := hq.moment
  have h2 := hq.earliest
  have h3 := hq.latest
  have h4 := hq.liars
  have h5 := hq.share
  have g1 : ¬ q.latest < q.earliest := by omega
  have g2 : q.liars ≤ 3 := by omega
  have g3 : q.share ≤ 1000000000000 := by omega
  simp [aQ, Mem.set_set] at hR'
  simp [b_Question_init, n_Question_init, aQ, e_in_room, e_box_in_room, w_fld2, -w_fld, -Bool.exists_bool]
  refine ⟨[q.moment, q.earliest, q.latest], rfl, by simp, by intro x hx; simp at hx; rcases hx with rfl | rfl | rfl <;> omega, ?_⟩
  simp [g1, w_fld2, -w_fld, -Bool.exists_bool]
  refine ⟨h2.2, q.root, rfl, by rw [hq.len]; omega, hq.root.sub (by omega), ?_⟩
  simp [gval, h4.1, g2, h5.1, g3, fld_same, w_fld2, -w_fld, Mem.set_set, -Bool.exists_bool]
  exact hR'
theorem asc_at {ts : List Int} (h : ts.Pairwise (· < ·)) {i j : Nat} {x y : Int} (hij : i < j) (hx : ts[i]? = some x) (hy : ts[j]? = some y) : x < y := by
  obtain ⟨h1, e1⟩ := List.getElem?_eq_some_iff.mp hx
  obtain ⟨h2, e2⟩ := List.getElem?_eq_some_iff.mp hy
  have := List.pairwise_iff_getElem.mp h i j h1 h2 hij
  rw [e1, e2] at this; exact this
theorem d_Plan_init : Does n_Plan_init 5 b_Plan_init i_Plan := does fun ds M P ⟨a, p, h1, hM, hp, hP⟩ => by
  subst h1
  refine ⟨rfl, fun R hR _ => ?_⟩
  rw [set_self hM] at hP ⊢
  have hR' := hR _ _ hP
  have h1 := hp.len
  have h2 := hp.without
  have h3 := hp.grain
  have h4 := hp.most
  have g1 : ¬ (16 : Int) < p.moments.length := by omega
  have g2 : ¬ (8 : Int) < p.without.length := by omega
  have g3 : ¬ p.grain < 1 := by omega
  have g4 : ¬ p.most < 1 := by omega
  simp [aPl, dP, Mem.set_set] at hR'
  simp [b_Plan_init, n_Plan_init, aPl, dP, gval, g1, g2, g3, g4, w_fld2, -w_fld, -Bool.exists_bool]
  refine ⟨by omega, ?_⟩
  refine for_map (List.range (p.moments.length - 1)) _ (fun i ρ' M' => M' = M.set a (.ins 10 []) ∧ ∃ z, ρ' = [some (.adr a), some (.tup (p.moments.map .int)), some (.int p.grain), some (.int p.most), some (.tup (p.without.map dN)), z]) ⟨rfl, _, rfl⟩ ?_ ?_
  · rintro i k ρ' M' hi ⟨rfl, z, rfl⟩
    obtain ⟨h5, h6⟩ := List.getElem?_eq_some_iff.mp hi
    simp at h5 h6
    subst h6
    have l1 : i < p.moments.length := by omega
    have l2 : i + 1 < p.moments.length := by omega
    have e1 : atI (p.moments.map D.int) (1 + (i : Int) - 1) = some (.int p.moments[i]) := atI_nat (k := i) (by omega) (by rw [List.getElem?_map, List.getElem?_eq_getElem l1]; rfl)
    have e2 : atI (p.moments.map D.int) (1 + (i : Int)) = some (.int p.moments[i + 1]) := atI_nat (k := i + 1) (by omega) (by rw [List.getElem?_map, List.getElem?_eq_getElem l2]; rfl)
    have := asc_at hp.asc (Nat.lt_succ_self i) (List.getElem?_eq_getElem l1) (List.getElem?_eq_getElem l2)
    have g : ¬ p.moments[i + 1] ≤ p.moments[i] := by omega
    simp [e1, e2, g]
  · rintro ρ' M' ⟨rfl, z, rfl⟩
    simp [fld_same, w_fld2, -w_fld, Mem.set_set]
    exact hR'
end Sp
end
section
set_option Elab.async false
set_option linter.all false
set_option maxRecDepth 100000
/-! Walks: knowing. -/
namespace Sp
open PySem L2
theorem d_far : Does n_far 4 b_far p_far := does fun ds M P ⟨n, s, q, rs, p, x, y, h, t, b, h1, hs, hh, ht, hb, hP⟩ => by
  subst h1
  refine ⟨rfl, fun R hR _ => ?_⟩
  have := hh.moment
  have h2 : 0 ≤ absI (t - h.moment) ∧ absI (t - h.moment) ≤ 10000 := by unfold absI; omega
  simp [b_far, n_far, Hd.d, dBs, -Bool.exists_bool]
  refine for_map h.cover _ (fun i ρ' M' => M' = M ∧ ∃ z, ρ' = [some (kng s q rs p x y), some (.ins 4 [.int h.moment, .tup (h.cover.map dB), dU h.used]), some (.int t), some (dB b), some (.int (absI (t - h.moment))), z]) ⟨rfl, _, rfl⟩ ?_ ?_
  · rintro i c ρ' M' hi ⟨rfl, z, rfl⟩
    simp [kng, e_farther, -Bool.exists_bool]
    refine ⟨n, s, _, c, b, rfl, hs, h2.1, h2.2, hh.cover c (List.mem_of_getElem? hi), hb, ?_⟩
    cases fartherS s (absI (t - h.moment)) c b with
    | true => simp [kng]
    | false => simp; exact hR _ _ (hP false)
  · rintro ρ' M' ⟨rfl, z, rfl⟩
    simp
    exact hR _ _ (hP true)
theorem d_left_out : Does n_left_out 5 b_left_out p_left_out := does fun ds M P ⟨n, s, q, rs, p, x, y, ks, hs', nm, l, t, b, h1, hK, hL, ht, hb, hP0, hP⟩ => by
  subst h1
  refine ⟨rfl, fun R hR _ => ?_⟩
  simp [b_left_out, n_left_out, kng, dRs, -Bool.exists_bool]
  refine for_map rs _ (fun i ρ' M' => M' = M ∧ ∃ z1 z2, ρ' = [some (.ins 9 [s.d, q.d, .lst (rs.map dRw), p.d, .adr x, .adr y]), some (dN nm), some l, some (.int t), some (dB b), z1, z2]) ⟨rfl, _, _, rfl⟩ ?_ ?_
  · rintro i r ρ' M' hi ⟨rfl, z1, z2, rfl⟩
    have hro := hK.rs.all r (List.mem_of_getElem? hi)
    simp [dRw, -Bool.exists_bool]
    simp [Rdg.d, dN, -Bool.exists_bool]
    refine c_notin (xs := nm) rfl (fun ns h => by cases h) ?_
    simp [e_excludes, -Bool.exists_bool]
    by_cases c1 : r.2.source ∈ nm
    · simp [c1]
    · simp [c1, -Bool.exists_bool]
      refine ⟨n, s, r.2, t, b, rfl, hK.s, hro, ht, hb, ?_⟩
      cases exclS s r.2 t b with
      | true => simp; exact hR _ _ (hP (.reading r.1))
      | false => simp
  · rintro ρ' M' ⟨rfl, z1, z2, rfl⟩
    cases hL with
    | non => simp; exact hR _ _ hP0
    | @at_ k h =>
      have e1 : atI (hs'.map Hd.d) (k : Int) = some (Hd.d hs'[k]) := atI_nat rfl (by rw [List.getElem?_map, List.getElem?_eq_getElem h]; rfl)
      simp [i_adr hK.my, e1, e_far, -Bool.exists_bool]
      refine ⟨n, s, q, rs, p, x, y, hs'[k], t, b, rfl, hK.s, hK.hs _ (List.getElem_mem h), ht, hb, ?_⟩
      intro c
      cases c with
      | true => simp; exact hR _ _ (hP (.known k))
      | false => simp; exact hR _ _ hP0
def mcI (n : Nat) (s : Stg) (q : Qn) (rs : List Rw) (p : Pln) (x y : Addr) (nm : List Str) (l : D) (t : Int) (a1 a2 a3 : Addr) (M : Mem) (m : Nat) (ρ' : Rho) (M' : Mem) : Prop :=
  ∃ (tr : Tr) (cv : List Bx) (rows : List (Bx × Int)) (lk : Nat) (z8 z9 z10 z11 z12 z13 : Option D), ρ' = [some (kng s q rs p x y), some (dN nm), some l, some (.int t), some (.adr a1), some (.adr a2), some (.int (lk : Nat)), some (.adr a3), z8, z9, z10, z11, z12, z13] ∧
    M' a1 = some (.lst (tr.map Stp.d)) ∧ M' a2 = some (.lst (cv.map dB)) ∧ M' a3 = some (.lst (rows.reverse.map fun r => .tup [dB r.1, .int r.2])) ∧ M.le M' ∧ tr.length = lk ∧ cv.length ≤ lk ∧
    lk + m ≤ 129 ∧ m = 2 * (64 - lk) + rows.length ∧ (∀ r ∈ rows, BOk (n + 1) r.1) ∧ ∀ c ∈ cv, BOk (n + 1) c
theorem d_make_cover : Does n_make_cover 4 b_make_cover p_make_cover := does fun ds M P ⟨n, s, q, rs, p, x, y, ks, hs', nm, l, t, h1, hK, hL, ht, hP⟩ => by
  subst h1
  refine ⟨rfl, fun R hR hR2 => ?_⟩
  have hmost := hK.p.most
  show wpSs t_make_cover_20 [some (kng s q rs p x y), some (dN nm), some l, some (.int t), none, none, none, none, none, none, none, none, none, none] M _
  simp [t_make_cover_20, t_make_cover_19, t_make_cover_18, t_make_cover_17, kng, -Bool.exists_bool]
  intro a1 ha1 a2 ha2
  have h21 : a2 ≠ a1 := fun e => by rw [e, Mem.set_same] at ha2; cases ha2
  rw [Mem.set_ne h21] at ha2
  simp [e_root_at, -Bool.exists_bool]
  refine ⟨n, s, q, t, rfl, hK.s, hK.q, ht, ?_⟩
  intro a3 ha3
  have h32 : a3 ≠ a2 := fun e => by rw [e, Mem.set_same] at ha3; cases ha3
  rw [Mem.set_ne h32] at ha3
  have h31 : a3 ≠ a1 := fun e => by rw [e, Mem.set_same] at ha3; cases ha3
  rw [Mem.set_ne h31] at ha3
  simp [t_make_cover_16, -Bool.exists_bool]
  refine ⟨mcI n s q rs p x y nm l t a1 a2 a3 M, ⟨129, [], [], [(rootAtS s q t, 0)], 0, _, _, _, _, _, _, rfl, ?_, ?_, ?_, le_put ha3 (le_put ha2 (le_put ha1 Mem.le_refl)), rfl, by simp, by simp, by simp, ?_, by simp⟩, ?_⟩
  · rw [Mem.set_ne (Ne.symm h31), Mem.set_ne (Ne.symm h21), Mem.set_same]; rfl
  · rw [Mem.set_ne (Ne.symm h32), Mem.set_same]; rfl
  · rw [Mem.set_same]; rfl
  · intro r hr
    rw [List.mem_singleton] at hr
    subst hr
    exact root_ok hK.s hK.q ht
  · rintro m ρ' M' ⟨tr, cv, rows, lk, z8, z9, z10, z11, z12, z13, rfl, m1, m2, m3, hle, htl, hcl, hlm, hm, hro, hco⟩
    refine ⟨_, rfl, _, t_adr m3, ?_⟩
    cases rows with
    | nil =>
      simp [t_make_cover_1, bi_tupA m1, bi_tupA m2]
      have := hP tr cv (by omega) (by omega) hco
      exact hR2 _ _ M hle (by simpa [dT, dBs] using this)
    | cons r rest =>
      obtain ⟨part, deep⟩ := r
      rw [if_pos (by simp)]
      have hpo : BOk (n + 1) part := hro (part, deep) (by simp)
      have hm3 : M' a3 = some (.lst ((rest.reverse.map fun r => D.tup [dB r.1, .int r.2]) ++ [.tup [dB part, .int deep]])) := by rw [m3]; simp
      simp only [List.length_cons] at hm
      have hK3 : M.le (M'.set a3 (.lst (rest.reverse.map fun r => D.tup [dB r.1, .int r.2]))) := le_put ha3 hle
      simp [t_make_cover_15, -Bool.exists_bool]
      refine ⟨_, hm3, _, last_app, ?_⟩
      rw [List.dropLast_concat]
      have m1' : (M'.set a3 (.lst (rest.reverse.map fun r => D.tup [dB r.1, .int r.2]))) a1 = some (.lst (tr.map Stp.d)) := by rw [Mem.set_ne (Ne.symm h31)]; exact m1
      have m2' : (M'.set a3 (.lst (rest.reverse.map fun r => D.tup [dB r.1, .int r.2]))) a2 = some (.lst (cv.map dB)) := by rw [Mem.set_ne (Ne.symm h32)]; exact m2
      have m3' : (M'.set a3 (.lst (rest.reverse.map fun r => D.tup [dB r.1, .int r.2]))) a3 = some (.lst (rest.reverse.map fun r => D.tup [dB r.1, .int r.2])) := Mem.set_same
      generalize hMM : M'.set a3 (.lst (rest.reverse.map fun r => D.tup [dB r.1, .int r.2])) = MM at *
      have hKM : Kst n s q rs p x y ks hs' MM := ⟨hK.s, hK.q, hK.rs, hK.p, hK.ne, hK3 _ _ hK.mx, hK3 _ _ hK.my, hK.len, hK.ks, hK.hs⟩
      refine ⟨_, rfl, rfl, ?_⟩
      have hlook : ∀ (Q : D → Mem → Prop) (ρ : Rho), ρ[0]? = some (some (kng s q rs p x y)) → ρ[6]? = some (some (.int (lk : Nat))) → ρ[12]? = some (some (.int deep)) → ρ[5]? = some (some (.adr a2)) →
          (∀ c : Bool, (c = false → (lk : Int) < 8 * p.most) → Q (.bl c) MM) → wpE (.or (.cmp .ge (.var 6) (.op .mul (.glob 9) (.attr (.attr (.var 0) 34) 38))) (.or (.cmp .ge (.var 12) (.glob 8)) (.cmp .ge (.bi .len (.cons (.var 5) .nil)) (.attr (.attr (.var 0) 34) 38)))) ρ MM Q := by
        intro Q ρ r0 r6 r12 r5 hQ
        simp [r0, r6, r12, r5, kng, Pln.d, gval, bi_lenA m2', -Bool.exists_bool]
        refine ⟨cm1 (by omega), ?_⟩
        split
        · exact hQ true (fun h => by cases h)
        · rename_i c1
          split
          · exact hQ true (fun h => by cases h)
          · exact hQ _ (fun _ => by omega)
      rw [t_make_cover_14, w_scons, w_asg]
      refine hlook _ _ rfl rfl rfl rfl ?_
      intro c hc
      simp [t_make_cover_13, t_make_cover_12, -Bool.exists_bool]
      refine ⟨⟨_, rfl⟩, n, s, q, rs, p, x, y, ks, hs', nm, l, t, part, rfl, hKM, hL, ht, hpo, ?_⟩
      have n3 : n ≤ 3 := by have := hK.s.n23; omega
      have hne : part ≠ [] := fun e => by have := hpo.len; rw [e] at this; cases this
      have pl10 : part.length ≤ 10 := by rw [hpo.len]; omega
      have hlk1 : ((lk : Int) + 1) = ((lk + 1 : Nat) : Int) := by omega
      have key : ∀ (d : D), (d = .non ∨ ∃ st : Stp, d = st.d) → wpSs t_make_cover_11 [some (kng s q rs p x y), some (dN nm), some l, some (D.int t), some (D.adr a1), some (D.adr a2), some (D.int ((lk : Int) + 1)), some (D.adr a3), some (D.bl c), some d, z10, some (dB part), some (D.int deep), z13] MM
          { nx := fun ρ2 M2 => ∃ m', m' < m ∧ mcI n s q rs p x y nm l t a1 a2 a3 M m' ρ2 M2, rt := R, bk := fun ρ1 M1 => wpSs t_make_cover_1 ρ1 M1 { nx := fun x M' => R D.non M', rt := R }, ct := fun ρ2 M2 => ∃ m', m' < m ∧ mcI n s q rs p x y nm l t a1 a2 a3 M m' ρ2 M2 } := by
        intro d hd
        simp [t_make_cover_11, e_halves, -Bool.exists_bool]
        refine ⟨part, rfl, pl10, hne, fun X Y => ?_⟩
        rcases hd with rfl | ⟨st, rfl⟩
        · simp [t_make_cover_10, t_make_cover_9, -Bool.exists_bool]
          -- kept
          have kept : ∀ z10 z13 : Option D, wpSs t_make_cover_4 [some (kng s q rs p x y), some (dN nm), some l, some (D.int t), some (D.adr a1), some (D.adr a2), some (D.int ((lk : Int) + 1)), some (D.adr a3), some (D.bl c), some .non, z10, some (dB part), some (D.int deep), z13] MM
              { nx := fun ρ2 M2 => ∃ m', m' < m ∧ mcI n s q rs p x y nm l t a1 a2 a3 M m' ρ2 M2, rt := R, bk := fun ρ1 M1 => wpSs t_make_cover_1 ρ1 M1 { nx := fun x M' => R D.non M', rt := R }, ct := fun ρ2 M2 => ∃ m', m' < m ∧ mcI n s q rs p x y nm l t a1 a2 a3 M m' ρ2 M2 } := by
            intro z10 z13
            have m2b : (MM.set a1 (.lst (tr.map Stp.d ++ [.tup [.str "kept", .int (cv.length : Nat)]]))) a2 = some (.lst (cv.map dB)) := by rw [Mem.set_ne h21]; exact m2'
            simp [t_make_cover_4, t_make_cover_3, m1', bi_lenA m2', m2b, -Bool.exists_bool]
            refine ⟨by omega, by omega, 2 * (64 - (lk + 1)) + rest.length, by omega, tr ++ [.kept (cv.length : Nat)], cv ++ [part], rest, lk + 1, _, _, _, _, _, _, by rw [hlk1], ?_, ?_, ?_, le_put ha2 (le_put ha1 hK3), by simp [htl], by simp; omega, by omega, rfl, fun r hr => hro r (by simp [hr]), ?_⟩
            · rw [Mem.set_ne (Ne.symm h21), Mem.set_same]; simp [Stp.d]
            · rw [Mem.set_same]; simp
            · rw [Mem.set_ne h32, Mem.set_ne h31]; exact m3'
            · intro z hz
              rcases List.mem_append.mp hz with hz | hz
              · exact hco z hz
              · rw [List.mem_singleton] at hz; subst hz; exact hpo
          cases c with
          | true => simp; exact kept _ _
          | false =>
            have hc := hc rfl
            simp [-Bool.exists_bool]
            cases hcc : cutS part X Y with
            | none => simp [dCut]; exact kept _ _
            | some xy =>
              obtain ⟨X1, Y1⟩ := xy
              have hxy := cut_ok hpo hcc
              simp [dCut, kng, Pln.d, e_is_small, -Bool.exists_bool]
              refine ⟨part, _, rfl, pl10, ?_⟩
              cases hsm : smallS part p.grain with
              | true =>
                have := kept (some (.tup [dB X1, dB Y1])) z13
                simp [kng, Pln.d] at this
                simp
                exact this
              | false =>
                simp [t_make_cover_8, e_widest, -Bool.exists_bool]
                refine ⟨part, rfl, pl10, hne, fun k hk => ?_⟩
                have hk1 : k < X1.length := by rw [hxy.1.len, ← hpo.len]; exact hk
                have e1 : atI (X1.map dS) (k : Int) = some (dS X1[k]) := atI_nat rfl (by rw [List.getElem?_map, List.getElem?_eq_getElem hk1]; rfl)
                have m3b : (MM.set a1 (.lst (tr.map Stp.d ++ [.tup [.str "cut", .int k, .int X1[k].2]]))) a3 = some (.lst (rest.reverse.map fun r => D.tup [dB r.1, .int r.2])) := by rw [Mem.set_ne h31]; exact m3'
                have hrl : rest.length ≤ 200 := by omega
                have m3c : ((MM.set a1 (.lst (tr.map Stp.d ++ [.tup [.str "cut", .int k, .int X1[k].2]]))).set a3 (.lst ((rest.reverse.map fun r => D.tup [dB r.1, .int r.2]) ++ [.tup [dB Y1, .int (deep + 1)]]))) a3 = some (.lst ((rest.reverse.map fun r => D.tup [dB r.1, .int r.2]) ++ [.tup [dB Y1, .int (deep + 1)]])) := Mem.set_same
                simp only [t_make_cover_7, t_make_cover_6, t_make_cover_5, w_scons, w_app, w_snil, w_var, w_tup, w_cons, w_nil, w_str, w_idx, w_int, w_op]
                refine ⟨_, rfl, ⟨_, _, rfl, m1'⟩, _, rfl, _, rfl, 0, rfl, _, rfl, _, at0, _, rfl, _, rfl, _, rfl, _, e1, 1, rfl, _, rfl, _, at1, _, _, rfl, m1', by simp; omega, ?_⟩
                refine ⟨_, rfl, ⟨_, _, rfl, m3b⟩, _, rfl, 1, rfl, _, rfl, _, at1, _, rfl, _, _, rfl, m3b, by simp; omega, ?_⟩
                refine ⟨_, rfl, ⟨_, _, rfl, m3c⟩, _, rfl, 0, rfl, _, rfl, _, at0, _, rfl, _, _, rfl, m3c, by simp; omega, ?_⟩
                refine ⟨2 * (64 - (lk + 1)) + ((X1, deep + 1) :: (Y1, deep + 1) :: rest).length, by simp; omega, tr ++ [.cut k X1[k].2], cv, (X1, deep + 1) :: (Y1, deep + 1) :: rest, lk + 1, _, _, _, _, _, _, by rw [hlk1]; rfl, ?_, ?_, ?_, ?_, by simp [htl], by omega, by simp; omega, rfl, ?_, hco⟩
                · rw [Mem.set_ne (Ne.symm h31), Mem.set_ne (Ne.symm h31), Mem.set_same]; simp [Stp.d]
                · rw [Mem.set_ne (Ne.symm h32), Mem.set_ne (Ne.symm h32), Mem.set_ne h21]; exact m2'
                · rw [Mem.set_same]; simp
                · exact le_put ha3 (le_put ha3 (le_put ha1 hK3))
                · intro r hr
                  rcases List.mem_cons.mp hr with e | hr
                  · cases e; exact hxy.1
                  · rcases List.mem_cons.mp hr with e | hr
                    · cases e; exact hxy.2
                    · exact hro r (by simp [hr])
        · have hst : noneD st.d = false := by cases st <;> rfl
          simp [t_make_cover_10, t_make_cover_2, hst, m1', -Bool.exists_bool]
          refine ⟨by omega, 2 * (64 - (lk + 1)) + rest.length, by omega, tr ++ [st], cv, rest, lk + 1, _, _, _, _, _, _, by rw [hlk1], ?_, ?_, ?_, le_put ha1 hK3, by simp [htl], by omega, by omega, rfl, fun r hr => hro r (by simp [hr]), hco⟩
          · rw [Mem.set_same]; simp
          · rw [Mem.set_ne h21]; exact m2'
          · rw [Mem.set_ne h31]; exact m3'
      exact ⟨key _ (.inl rfl), fun st => key _ (.inr ⟨st, rfl⟩)⟩

end Sp
end
section
set_option Elab.async false
set_option linter.all false
set_option maxRecDepth 100000
/-! Walks: what is known. -/
namespace Sp
open PySem L2
theorem d_add : Does n_add 4 b_add p_add := does fun ds M P ⟨n, s, q, rs, p, x, y, ks, hs', nm, l, t, h1, hK, hl9, hL, ht, hP⟩ => by
  subst h1
  refine ⟨rfl, fun R hR hR2 => ?_⟩
  have hlen := hK.len
  show wpSs t_add_6 [some (kng s q rs p x y), some (dN nm), some l, some (.int t), none, none, none, none] M _
  simp [t_add_6, e_make_cover, -Bool.exists_bool]
  refine ⟨⟨_, rfl⟩, n, s, q, rs, p, x, y, ks, hs', nm, l, t, rfl, hK, hL, ht, fun tr cv h1 h2 h3 => ?_⟩
  simp [t_add_5, kng, e_root_at, -Bool.exists_bool]
  refine ⟨n, s, q, t, rfl, hK.s, hK.q, ht, ?_⟩
  simp [t_add_4, e_judge_tree, -Bool.exists_bool]
  refine ⟨n, s, rs, _, hs', cv, t, tr, _, rfl, l_adr hK.my, hK.s, hK.rs, ⟨by omega, hK.hs⟩, ht, root_ok hK.s hK.q ht, h1, ?_⟩
  have hu := fun u e => jtree_ok (s := s) (kp := cv) (t := t) (tr := tr) (b := rootAtS s q t) (u := u) hK.rs ⟨by omega, hK.hs⟩ e
  have hy2 : (M.set x (.lst (ks.map Kw.d ++ [Kw.d ⟨t, cv, tr⟩]))) y = some (.lst (hs'.map Hd.d)) := by rw [Mem.set_ne (Ne.symm hK.ne)]; exact hK.my
  simp [t_add_3, hK.mx, e_Known, -Bool.exists_bool]
  refine ⟨⟨t, cv, tr⟩, rfl, trivial, ?_⟩
  refine ⟨_, hK.mx, by simp; omega, ?_⟩
  have e0 : D.ins 5 (aK ⟨t, cv, tr⟩) = Kw.d ⟨t, cv, tr⟩ := rfl
  rw [e0]
  simp [t_add_2, hy2, e_Held, -Bool.exists_bool]
  refine ⟨⟨t, cv, jtree s rs hs' cv t tr (rootAtS s q t)⟩, rfl, trivial, ?_⟩
  refine ⟨_, hy2, by simp; omega, ?_⟩
  have hx3 : ((M.set x (.lst (ks.map Kw.d ++ [Kw.d ⟨t, cv, tr⟩]))).set y (.lst (hs'.map Hd.d ++ [Hd.d ⟨t, cv, jtree s rs hs' cv t tr (rootAtS s q t)⟩]))) x = some (.lst (ks.map Kw.d ++ [Kw.d ⟨t, cv, tr⟩])) := by rw [Mem.set_ne hK.ne, Mem.set_same]
  have e1 : D.ins 4 (aH ⟨t, cv, jtree s rs hs' cv t tr (rootAtS s q t)⟩) = Hd.d ⟨t, cv, jtree s rs hs' cv t tr (rootAtS s q t)⟩ := rfl
  rw [e1]
  simp [t_add_1, bi_lenA hx3]
  have := hR _ _ (hP ⟨t, cv, tr⟩ ⟨t, cv, jtree s rs hs' cv t tr (rootAtS s q t)⟩ ⟨ht, h2, h3, h1⟩ ⟨ht, h2, h3, hu⟩)
  simpa using this
theorem set_swap {M : Mem} {x y : Addr} {a b : D} (h : x ≠ y) : (M.set x a).set y b = (M.set y b).set x a := by
  funext c
  by_cases e1 : c = x <;> by_cases e2 : c = y <;> simp_all [Mem.set]
theorem set2 {M : Mem} {x y : Addr} {a b c d : D} (h : x ≠ y) : (((M.set x a).set y b).set x c).set y d = (M.set x c).set y d := by
  funext z
  by_cases e1 : z = x <;> by_cases e2 : z = y <;> simp_all [Mem.set]
theorem self2 {M : Mem} {x y : Addr} {a b : D} (h : x ≠ y) (hx : M x = some a) (hy : M y = some b) : (M.set x a).set y b = M := by
  funext z
  by_cases e1 : z = x <;> by_cases e2 : z = y <;> simp_all [Mem.set]
theorem Kst.next {n : Nat} {s : Stg} {q : Qn} {rs : List Rw} {p : Pln} {x y : Addr} {ks ks' : List Kw} {hs hs' : List Hd} {M : Mem} (hK : Kst n s q rs p x y ks hs M) (hl : ks'.length = hs'.length) (h1 : ∀ k ∈ ks', KwOk n k) (h2 : ∀ h ∈ hs', HOk n h) :
    Kst n s q rs p x y (ks ++ ks') (hs ++ hs') ((M.set x (.lst ((ks ++ ks').map Kw.d))).set y (.lst ((hs ++ hs').map Hd.d))) := by
  refine ⟨hK.s, hK.q, hK.rs, hK.p, hK.ne, by rw [Mem.set_ne hK.ne, Mem.set_same], Mem.set_same, by simp [hK.len, hl], fun k hk => ?_, fun h hh => ?_⟩
  · rcases List.mem_append.mp hk with hk | hk
    · exact hK.ks k hk
    · exact h1 k hk
  · rcases List.mem_append.mp hh with hk | hk
    · exact hK.hs h hk
    · exact h2 h hk
def arI (n : Nat) (s : Stg) (q : Qn) (rs : List Rw) (p : Pln) (x y : Addr) (ks : List Kw) (hs : List Hd) (nm : List Str) (ts : List Int) (M : Mem) (i : Nat) (ρ' : Rho) (M' : Mem) : Prop :=
  ∃ (ks' : List Kw) (hs' : List Hd) (l : D) (z : Option D), ρ' = [some (kng s q rs p x y), some (dN nm), some (dL ts), some l, z] ∧ ks'.length = i ∧ hs'.length = i ∧ (∀ k ∈ ks', KwOk n k) ∧ (∀ h ∈ hs', HOk n h) ∧ Lst (hs ++ hs') l ∧
    M' = (M.set x (.lst ((ks ++ ks').map Kw.d))).set y (.lst ((hs ++ hs').map Hd.d))
theorem d_add_row : Does n_add_row 3 b_add_row p_add_row := does fun ds M P ⟨n, s, q, rs, p, x, y, ks, hs', nm, ts, h1, hK, hl8, hl2, hb, hP⟩ => by
  subst h1
  refine ⟨rfl, fun R hR hR2 => ?_⟩
  have hlen := hK.len
  simp [b_add_row, n_add_row, -Bool.exists_bool]
  refine ⟨ts.map D.int, rfl, ?_⟩
  refine for_map ts _ (arI n s q rs p x y ks hs' nm ts M) ⟨[], [], .non, _, rfl, rfl, rfl, by simp, by simp, .non, ?_⟩ ?_ ?_
  · rw [List.append_nil, List.append_nil, self2 hK.ne hK.mx hK.my]
  · rintro i t ρ' M' hi ⟨ks', hs2, l, z, rfl, hk1, hk2, hk3, hk4, hL, rfl⟩
    have hit := (List.getElem?_eq_some_iff.mp hi).1
    have hbt := hb t (List.mem_of_getElem? hi)
    simp [e_add, -Bool.exists_bool]
    refine ⟨⟨_, rfl⟩, n, s, q, rs, p, x, y, ks ++ ks', hs' ++ hs2, nm, l, t, rfl, ?_, by simp; omega, hL, hbt, fun k h hk hh => ?_⟩
    · have := hK.next (by rw [hk1, hk2]) hk3 hk4
      simpa using this
    · refine ⟨ks' ++ [k], hs2 ++ [h], _, _, rfl, by simp [hk1], by simp [hk2], ?_, ?_, ?_, ?_⟩
      · intro z hz
        rcases List.mem_append.mp hz with hz | hz
        · exact hk3 z hz
        · rw [List.mem_singleton] at hz; subst hz; exact hk
      · intro z hz
        rcases List.mem_append.mp hz with hz | hz
        · exact hk4 z hz
        · rw [List.mem_singleton] at hz; subst hz; exact hh
      · exact .at_ (by simp; omega)
      · have := set2 (M := M) (a := .lst ((ks ++ ks').map Kw.d)) (b := .lst ((hs' ++ hs2).map Hd.d)) (c := .lst ((ks ++ ks' ++ [k]).map Kw.d)) (d := .lst ((hs' ++ hs2 ++ [h]).map Hd.d)) hK.ne
        rw [← List.append_assoc, ← List.append_assoc, ← this]
        simp
  · rintro ρ' M' ⟨ks', hs2, l, z, rfl, hk1, hk2, hk3, hk4, hL, rfl⟩
    exact hR _ _ (hP ks' hs2 hk1 hk2 hk3 hk4)
theorem sl_adr {M : Mem} {a : Addr} {xs : List D} {lo hi : Option Int} {R : D → Prop} (h : M a = some (.lst xs)) (hR : R (.lst (cutA xs lo hi))) : slD M (.adr a) lo hi R := ⟨xs, l_adr h, hR⟩
def knI (n : Nat) (s : Stg) (q : Qn) (rs : List Rw) (p : Pln) (rs0 : D) (ea la : List Int) (x y a : Addr) (M : Mem) (i : Nat) (ρ' : Rho) (M' : Mem) : Prop :=
  ∃ (ks : List Kw) (hs : List Hd) (rows : List D) (z6 z9 z10 z11 z12 z13 : Option D), ρ' = [some s.d, some q.d, some rs0, some p.d, some (kng s q rs p x y), some (dL ea), z6, some (dL la), some (.adr a), z9, z10, z11, z12, z13] ∧
    Kst n s q rs p x y ks hs M' ∧ ks.length ≤ 40 * i ∧ M' a = some (.lst rows) ∧ rows.length = i ∧ M.le M'
theorem d_know : Does n_know 4 b_know p_know := does fun ds M P ⟨n, s, q, rs, p, h1, hs, hq, hr, hp, hP⟩ => by
  subst h1
  refine ⟨rfl, fun R hR hR2 => ?_⟩
  have hml := hp.len
  show wpSs t_know_12 [some s.d, some q.d, some (dRs rs), some p.d, none, none, none, none, none, none, none, none, none, none] M _
  simp [t_know_12, e_asked, -Bool.exists_bool]
  refine ⟨n, q, rs, rfl, hr, ?_⟩
  simp [e_Knowing, -Bool.exists_bool]
  refine ⟨_, _, _, _, ⟨rfl, rfl, rfl, rfl⟩, fun x y hxy hx hy => ?_⟩
  have hra := asked_ok (q := q) hr
  have hle0 : M.le ((M.set x (.lst [])).set y (.lst [])) := le_put hy (le_put hx Mem.le_refl)
  have hk0 : D.ins 9 [s.d, q.d, dRs (askedS q rs), p.d, .adr x, .adr y] = kng s q (askedS q rs) p x y := rfl
  rw [hk0]
  have hK0 : Kst n s q (askedS q rs) p x y [] [] ((M.set x (.lst [])).set y (.lst [])) := ⟨hs, hq, hra, hp, hxy, by rw [Mem.set_ne hxy, Mem.set_same]; rfl, Mem.set_same, rfl, by simp, by simp⟩
  generalize hM0 : (M.set x (.lst [])).set y (.lst []) = M0 at *
  simp [t_know_11, Pln.d, dP, -Bool.exists_bool]
  refine lc_filter p.moments _ (fun t => decide (t ≤ q.moment)) D.int (by omega) (fun Ma hl t ht => ?_) ?_
  · simp [Qn.d]
  · simp [t_know_10, -Bool.exists_bool]
    refine lc_filter p.moments _ (fun t => decide (q.moment < t)) D.int (by omega) (fun Ma hl t ht => ?_) ?_
    · simp [Qn.d]
    · simp [t_know_9, -Bool.exists_bool]
      intro a ha
      have hax : a ≠ x := fun e => by have := hK0.mx; rw [← e, ha] at this; cases this
      have hay : a ≠ y := fun e => by have := hK0.my; rw [← e, ha] at this; cases this
      have hMa : M a = none := by
        cases h : M a with
        | none => rfl
        | some d => rw [hle0 _ _ h] at ha; cases ha
      simp [t_know_8, -Bool.exists_bool]
      have lea : (p.moments.filter fun t => decide (t ≤ q.moment)).length ≤ 16 := Nat.le_trans (List.length_filter_le _ _) hml
      have lla : (p.moments.filter fun t => decide (q.moment < t)).length ≤ 16 := Nat.le_trans (List.length_filter_le _ _) hml
      have bea : Bd 1000 (p.moments.filter fun t => decide (t ≤ q.moment)) := fun z hz => hp.moments z (List.mem_filter.mp hz).1
      have bla : Bd 1000 (p.moments.filter fun t => decide (q.moment < t)) := fun z hz => hp.moments z (List.mem_filter.mp hz).1
      generalize (p.moments.filter fun t => decide (t ≤ q.moment)) = ea at *
      generalize (p.moments.filter fun t => decide (q.moment < t)) = la at *
      have hwl := hp.without
      refine for_map p.without _ (knI n s q (askedS q rs) p (dRs rs) ea la x y a M) ⟨[], [], [], _, _, _, _, _, _, rfl, ?_, by simp, Mem.set_same, rfl, le_put hMa hle0⟩ ?_ ?_
      · exact ⟨hs, hq, hra, hp, hxy, by rw [Mem.set_ne (Ne.symm hax)]; exact hK0.mx, by rw [Mem.set_ne (Ne.symm hay)]; exact hK0.my, rfl, by simp, by simp⟩
      · rintro i nm ρ' M' hi ⟨ks, hs', rows, z6, z9, z10, z11, z12, z13, rfl, hK, hkl, hMa', hrl, hle⟩
        have hil := (List.getElem?_eq_some_iff.mp hi).1
        simp [t_know_7, kng, bi_lenA hK.my, -Bool.exists_bool]
        simp [t_know_6, e_add_row, -Bool.exists_bool]
        refine ⟨n, s, q, askedS q rs, p, x, y, ks, hs', nm, ea, rfl, hK, by omega, by omega, bea, fun k1 h1 e1 e2 e3 e4 => ?_⟩
        have hK1 := hK.next (by rw [e1, e2]) e3 e4
        have hle1 : M.le ((M'.set x (.lst ((ks ++ k1).map Kw.d))).set y (.lst ((hs' ++ h1).map Hd.d))) := le_put hy (le_put hx hle)
        have hMa1 : ((M'.set x (.lst ((ks ++ k1).map Kw.d))).set y (.lst ((hs' ++ h1).map Hd.d))) a = some (.lst rows) := by rw [Mem.set_ne hay, Mem.set_ne hax]; exact hMa'
        generalize hM1 : (M'.set x (.lst ((ks ++ k1).map Kw.d))).set y (.lst ((hs' ++ h1).map Hd.d)) = M1 at *
        simp [t_know_5, bi_lenA hK1.my, -Bool.exists_bool]
        simp [t_know_4, e_add_row, dL, -Bool.exists_bool]
        refine ⟨n, s, q, askedS q rs, p, x, y, ks ++ k1, hs' ++ h1, nm, la.reverse, by simp [dL, kng], hK1, by simp; omega, by simp; omega, fun z hz => bla z (by simpa using hz), fun k2 h2 f1 f2 f3 f4 => ?_⟩
        have hK2 := hK1.next (by rw [f1, f2]) f3 f4
        have hle2 : M.le ((M1.set x (.lst ((ks ++ k1 ++ k2).map Kw.d))).set y (.lst ((hs' ++ h1 ++ h2).map Hd.d))) := le_put hy (le_put hx hle1)
        have hMa2 : ((M1.set x (.lst ((ks ++ k1 ++ k2).map Kw.d))).set y (.lst ((hs' ++ h1 ++ h2).map Hd.d))) a = some (.lst rows) := by rw [Mem.set_ne hay, Mem.set_ne hax]; exact hMa1
        have hm2 := hK2.my
        generalize hM2 : (M1.set x (.lst ((ks ++ k1 ++ k2).map Kw.d))).set y (.lst ((hs' ++ h1 ++ h2).map Hd.d)) = M2 at *
        have hll : (hs' ++ h1 ++ h2).length ≤ 1000 := by rw [← hK2.len]; simp at f1 e1 ⊢; omega
        simp [t_know_3, -Bool.exists_bool]
        refine sl_adr hm2 ?_
        rw [cut_N (k := hs'.length) (l := hs'.length + h1.length) rfl (by omega), ← List.map_drop, ← List.map_take]
        refine ⟨_, rfl, ?_⟩
        rw [← List.map_reverse]
        refine lc_filter _ _ (fun h => decide (h.moment < q.moment)) Hd.d (by rw [List.length_reverse]; refine Nat.le_trans (List.length_take_le _ _) ?_; omega) (fun Ma hl h hh => ?_) ?_
        · simp [Hd.d, Qn.d]
        · simp [t_know_2, hMa2, e_Row, -Bool.exists_bool]
          refine sl_adr hm2 ?_
          refine ⟨_, rfl, ?_⟩
          refine ⟨(_, _, _), rfl, trivial, ?_⟩
          refine ⟨_, hMa2, by omega, ks ++ k1 ++ k2, hs' ++ h1 ++ h2, _, _, _, _, _, _, _, rfl, ?_, by simp at f1 e1 ⊢; omega, Mem.set_same, by simp [hrl], le_put hMa hle2⟩
          exact ⟨hs, hq, hra, hp, hxy, by rw [Mem.set_ne (Ne.symm hax)]; exact hK2.mx, by rw [Mem.set_ne (Ne.symm hay)]; exact hK2.my, hK2.len, hK2.ks, hK2.hs⟩
      · rintro ρ' M' ⟨ks, hs', rows, z6, z9, z10, z11, z12, z13, rfl, hK, hkl, hMa', hrl, hle⟩
        simp [t_know_1, kng]
        refine hR2 _ _ (M.set x (.lst (ks.map Kw.d))) (fun b d h => ?_) (hP x ks (.adr y) (.adr a) hx ⟨by omega, hK.ks⟩ (by omega))
        by_cases e : b = x
        · subst e; rw [Mem.set_same] at h; rw [hK.mx]; exact h
        · rw [Mem.set_ne e] at h; exact hle _ _ h
end Sp
end
section
set_option Elab.async false
set_option linter.all false
set_option maxRecDepth 100000
set_option maxHeartbeats 2000000
/-! Each def keeps its promise, each call may lean on it (printed by gen_asm.py). -/
namespace Sp
open PySem PySem.Spec PyProof.Rows L2
section
variable {w : World} {K : PySem.W.Frag} {mg : Str → Option Value} {base : Heap}
theorem fd_one {K : PySem.W.Frag} {d : He.DefD} {fd fd' : FuncData} (F : FDo K d fd) (F' : FDo K d fd') : fd = fd' := by
  obtain ⟨_, _, _, _, _, _, _, _, _, _, _, lk, _⟩ := F.ex
  obtain ⟨_, _, _, _, _, _, _, _, _, _, _, lk', _⟩ := F'.ex
  rw [lk] at lk'
  injection lk' with e
  injection e with _ _ e
  injection e
theorem fn_any {G : Gc} {k : Nat} {f : Addr} {fd : FuncData} {ps : List Str} (F0 : FnOk G.P G.w G.K G.mg G.base CX0 k f fd ps (spOf G (p_add_steps 0))) (F1 : FnOk G.P G.w G.K G.mg G.base CX0 k f fd ps (spOf G (p_add_steps 1))) (F2 : FnOk G.P G.w G.K G.mg G.base CX0 k f fd ps (spOf G (p_add_steps 2))) :
    FnOk G.P G.w G.K G.mg G.base CX0 k f fd ps (spOf G p_add_any) := by
  refine ⟨fun vs H Q E ⟨ds, M, P, m, l, ⟨j, hj, hs⟩, q⟩ => ?_, fun A outer s H args us vs Q E hr he hb hv ⟨ds, M, P, m, l, ⟨j, hj, hs⟩, q⟩ => ?_⟩
  · match j, hj, hs with
    | 0, _, hs => exact F0.len vs H Q E ⟨ds, M, P, m, l, hs, q⟩
    | 1, _, hs => exact F1.len vs H Q E ⟨ds, M, P, m, l, hs, q⟩
    | 2, _, hs => exact F2.len vs H Q E ⟨ds, M, P, m, l, hs, q⟩
    | j + 3, hj, _ => exact absurd hj (by omega)
  · match j, hj, hs with
    | 0, _, hs => exact F0.run A outer s H args us vs Q E hr he hb hv ⟨ds, M, P, m, l, hs, q⟩
    | 1, _, hs => exact F1.run A outer s H args us vs Q E hr he hb hv ⟨ds, M, P, m, l, hs, q⟩
    | 2, _, hs => exact F2.run A outer s H args us vs Q E hr he hb hv ⟨ds, M, P, m, l, hs, q⟩
    | j + 3, hj, _ => exact absurd hj (by omega)
theorem o_law_rows (x : Ctx w K mg base) : Df (mkG w K mg base) 1 SpH.d_law_rows ps_law_rows p_law_rows := df_of x 74 (d := SpH.d_law_rows) rfl (N := n_law_rows) sc_law_rows (b := b_law_rows) ck_law_rows d_law_rows (l := []) (by kernel_rfl) f0
theorem k_law_rows (x : Ctx w K mg base) : CallOk (mkG w K mg base) 1 e_law_rows := c_pos x (o_law_rows x) 58 (name := "_law_rows") rfl rfl (fun fd F => F.bindsN (ps := ps_law_rows) fun _ _ _ _ _ _ us hl => match us, hl with | [_, _], _ => rfl)
theorem o_Setting_init (x : Ctx w K mg base) : Df (mkG w K mg base) 1 SpH.d_Setting_init ps_Setting_init i_Setting := df_of x 1 (d := SpH.d_Setting_init) rfl (N := n_Setting_init) sc_Setting_init (b := b_Setting_init) ck_Setting_init d_Setting_init (l := []) (by kernel_rfl) f0
theorem k_Setting (x : Ctx w K mg base) : CallOk (mkG w K mg base) 2 e_Setting := (c_mkk (ks := ["speed", "drift", "per"]) (n := 1) x 0 (by decide) (o_Setting_init x) rfl (fun fd F => kb0 (ps := ps_Setting_init) (n := 2) (ks := ["speed", "drift", "per"]) F fun _ _ _ _ _ _ us ws h1 h2 => match us, ws, h1, h2 with | [_, _], [_, _, _], _, _ => rfl) (by decide) mk_ok)
theorem o_law_setting (x : Ctx w K mg base) : Df (mkG w K mg base) 3 SpH.d_law_setting ps_law_setting p_law_setting := df_of x 78 (d := SpH.d_law_setting) rfl (N := n_law_setting) sc_law_setting (b := b_law_setting) ck_law_setting d_law_setting (l := [(none, e_Setting)]) (by kernel_rfl) (f1 ((k_Setting x).mono (by decide : 2 ≤ 2)) f0)
theorem k_law_setting (x : Ctx w K mg base) : CallOk (mkG w K mg base) 3 e_law_setting := c_pos x (o_law_setting x) 62 (name := "_law_setting") rfl rfl (fun fd F => F.bindsN (ps := ps_law_setting) fun _ _ _ _ _ _ us hl => match us, hl with | [_], _ => rfl)
theorem o_law_digits (x : Ctx w K mg base) : Df (mkG w K mg base) 1 SpH.d_law_digits ps_law_digits p_law_digits := df_of x 77 (d := SpH.d_law_digits) rfl (N := n_law_digits) sc_law_digits (b := b_law_digits) ck_law_digits d_law_digits (l := []) (by kernel_rfl) f0
theorem k_law_digits (x : Ctx w K mg base) : CallOk (mkG w K mg base) 1 e_law_digits := c_pos x (o_law_digits x) 61 (name := "_law_digits") rfl rfl (fun fd F => F.bindsN (ps := ps_law_digits) fun _ _ _ _ _ _ us hl => match us, hl with | [_, _, _], _ => rfl)
theorem o_law_velocity (x : Ctx w K mg base) : Df (mkG w K mg base) 2 SpH.d_law_velocity ps_law_velocity p_law_velocity := df_of x 79 (d := SpH.d_law_velocity) rfl (N := n_law_velocity) sc_law_velocity (b := b_law_velocity) ck_law_velocity d_law_velocity (l := [(none, e_law_digits)]) (by kernel_rfl) (f1 ((k_law_digits x).mono (by decide : 1 ≤ 1)) f0)
theorem k_law_velocity (x : Ctx w K mg base) : CallOk (mkG w K mg base) 2 e_law_velocity := c_pos x (o_law_velocity x) 63 (name := "_law_velocity") rfl rfl (fun fd F => F.bindsN (ps := ps_law_velocity) fun _ _ _ _ _ _ us hl => match us, hl with | [_, _], _ => rfl)
theorem o_law_way (x : Ctx w K mg base) : Df (mkG w K mg base) 3 SpH.d_law_way ps_law_way p_law_way := df_of x 81 (d := SpH.d_law_way) rfl (N := n_law_way) sc_law_way (b := b_law_way) ck_law_way d_law_way (l := [(none, e_law_digits), (none, e_law_velocity), (none, e_law_velocity)]) (by kernel_rfl) (f1 ((k_law_digits x).mono (by decide : 1 ≤ 2)) (f1 ((k_law_velocity x).mono (by decide : 2 ≤ 2)) (f1 ((k_law_velocity x).mono (by decide : 2 ≤ 2)) f0)))
theorem k_law_way (x : Ctx w K mg base) : CallOk (mkG w K mg base) 3 e_law_way := c_pos x (o_law_way x) 65 (name := "_law_way") rfl rfl (fun fd F => F.bindsN (ps := ps_law_way) fun _ _ _ _ _ _ us hl => match us, hl with | [_, _], _ => rfl)
theorem o_law_at (x : Ctx w K mg base) : Df (mkG w K mg base) 1 SpH.d_law_at ps_law_at p_law_at := df_of x 80 (d := SpH.d_law_at) rfl (N := n_law_at) sc_law_at (b := b_law_at) ck_law_at d_law_at (l := []) (by kernel_rfl) f0
theorem k_law_at (x : Ctx w K mg base) : CallOk (mkG w K mg base) 1 e_law_at := c_pos x (o_law_at x) 64 (name := "_law_at") rfl rfl (fun fd F => F.bindsN (ps := ps_law_at) fun _ _ _ _ _ _ us hl => match us, hl with | [_, _], _ => rfl)
theorem o_in_room (x : Ctx w K mg base) : Df (mkG w K mg base) 1 SpH.d_in_room ps_in_room p_in_room := df_of x 2 (d := SpH.d_in_room) rfl (N := n_in_room) sc_in_room (b := b_in_room) ck_in_room d_in_room (l := []) (by kernel_rfl) f0
theorem k_in_room (x : Ctx w K mg base) : CallOk (mkG w K mg base) 1 e_in_room := c_pos x (o_in_room x) 1 (name := "in_room") rfl rfl (fun fd F => F.bindsN (ps := ps_in_room) fun _ _ _ _ _ _ us hl => match us, hl with | [_], _ => rfl)
theorem o_box_in_room (x : Ctx w K mg base) : Df (mkG w K mg base) 1 SpH.d_box_in_room ps_box_in_room p_box_in_room := df_of x 3 (d := SpH.d_box_in_room) rfl (N := n_box_in_room) sc_box_in_room (b := b_box_in_room) ck_box_in_room d_box_in_room (l := []) (by kernel_rfl) f0
theorem k_box_in_room (x : Ctx w K mg base) : CallOk (mkG w K mg base) 1 e_box_in_room := c_pos x (o_box_in_room x) 2 (name := "box_in_room") rfl rfl (fun fd F => F.bindsN (ps := ps_box_in_room) fun _ _ _ _ _ _ us hl => match us, hl with | [_], _ => rfl)
theorem o_Question_init (x : Ctx w K mg base) : Df (mkG w K mg base) 2 SpH.d_Question_init ps_Question_init i_Question := df_of x 6 (d := SpH.d_Question_init) rfl (N := n_Question_init) sc_Question_init (b := b_Question_init) ck_Question_init d_Question_init (l := [(none, e_in_room), (none, e_box_in_room)]) (by kernel_rfl) (f1 ((k_in_room x).mono (by decide : 1 ≤ 1)) (f1 ((k_box_in_room x).mono (by decide : 1 ≤ 1)) f0))
theorem k_Question (x : Ctx w K mg base) : CallOk (mkG w K mg base) 3 e_Question := (c_mkk (ks := ["liars", "share", "earliest", "latest"]) (n := 2) x 2 (by decide) (o_Question_init x) rfl (fun fd F => kb0 (ps := ps_Question_init) (n := 3) (ks := ["liars", "share", "earliest", "latest"]) F fun _ _ _ _ _ _ us ws h1 h2 => match us, ws, h1, h2 with | [_, _, _], [_, _, _, _], _, _ => rfl) (by decide) mk_ok)
theorem o_law_question (x : Ctx w K mg base) : Df (mkG w K mg base) 4 SpH.d_law_question ps_law_question p_law_question := df_of x 91 (d := SpH.d_law_question) rfl (N := n_law_question) sc_law_question (b := b_law_question) ck_law_question d_law_question (l := [(none, e_law_at), (none, e_law_digits), (none, e_law_digits), (none, e_Question)]) (by kernel_rfl) (f1 ((k_law_at x).mono (by decide : 1 ≤ 3)) (f1 ((k_law_digits x).mono (by decide : 1 ≤ 3)) (f1 ((k_law_digits x).mono (by decide : 1 ≤ 3)) (f1 ((k_Question x).mono (by decide : 3 ≤ 3)) f0))))
theorem k_law_question (x : Ctx w K mg base) : CallOk (mkG w K mg base) 4 e_law_question := c_pos x (o_law_question x) 75 (name := "_law_question") rfl rfl (fun fd F => F.bindsN (ps := ps_law_question) fun _ _ _ _ _ _ us hl => match us, hl with | [_, _, _, _], _ => rfl)
theorem o_law_point (x : Ctx w K mg base) : Df (mkG w K mg base) 2 SpH.d_law_point ps_law_point p_law_point := df_of x 86 (d := SpH.d_law_point) rfl (N := n_law_point) sc_law_point (b := b_law_point) ck_law_point d_law_point (l := [(none, e_law_digits)]) (by kernel_rfl) (f1 ((k_law_digits x).mono (by decide : 1 ≤ 1)) f0)
theorem k_law_point (x : Ctx w K mg base) : CallOk (mkG w K mg base) 2 e_law_point := c_pos x (o_law_point x) 70 (name := "_law_point") rfl rfl (fun fd F => F.bindsN (ps := ps_law_point) fun _ _ _ _ _ _ us hl => match us, hl with | [_, _], _ => rfl)
theorem o_law_kind (x : Ctx w K mg base) : Df (mkG w K mg base) 3 SpH.d_law_kind ps_law_kind p_law_kind := df_of x 87 (d := SpH.d_law_kind) rfl (N := n_law_kind) sc_law_kind (b := b_law_kind) ck_law_kind d_law_kind (l := [(none, e_law_digits), (none, e_law_point), (none, e_law_point), (none, e_law_point), (none, e_law_point)]) (by kernel_rfl) (f1 ((k_law_digits x).mono (by decide : 1 ≤ 2)) (f1 ((k_law_point x).mono (by decide : 2 ≤ 2)) (f1 ((k_law_point x).mono (by decide : 2 ≤ 2)) (f1 ((k_law_point x).mono (by decide : 2 ≤ 2)) (f1 ((k_law_point x).mono (by decide : 2 ≤ 2)) f0)))))
theorem k_law_kind (x : Ctx w K mg base) : CallOk (mkG w K mg base) 3 e_law_kind := c_pos x (o_law_kind x) 71 (name := "_law_kind") rfl rfl (fun fd F => F.bindsN (ps := ps_law_kind) fun _ _ _ _ _ _ us hl => match us, hl with | [_, _], _ => rfl)
theorem o_law_square (x : Ctx w K mg base) : Df (mkG w K mg base) 1 SpH.d_law_square ps_law_square p_law_square := df_of x 82 (d := SpH.d_law_square) rfl (N := n_law_square) sc_law_square (b := b_law_square) ck_law_square d_law_square (l := []) (by kernel_rfl) f0
theorem k_law_square (x : Ctx w K mg base) : CallOk (mkG w K mg base) 1 e_law_square := c_pos x (o_law_square x) 66 (name := "_law_square") rfl rfl (fun fd F => F.bindsN (ps := ps_law_square) fun _ _ _ _ _ _ us hl => match us, hl with | [_, _], _ => rfl)
theorem o_law_piece (x : Ctx w K mg base) : Df (mkG w K mg base) 2 SpH.d_law_piece ps_law_piece p_law_piece := df_of x 83 (d := SpH.d_law_piece) rfl (N := n_law_piece) sc_law_piece (b := b_law_piece) ck_law_piece d_law_piece (l := [(none, e_law_square), (none, e_law_square), (none, e_law_square), (none, e_law_square)]) (by kernel_rfl) (f1 ((k_law_square x).mono (by decide : 1 ≤ 1)) (f1 ((k_law_square x).mono (by decide : 1 ≤ 1)) (f1 ((k_law_square x).mono (by decide : 1 ≤ 1)) (f1 ((k_law_square x).mono (by decide : 1 ≤ 1)) f0))))
theorem k_law_piece (x : Ctx w K mg base) : CallOk (mkG w K mg base) 2 e_law_piece := c_pos x (o_law_piece x) 67 (name := "_law_piece") rfl rfl (fun fd F => F.bindsN (ps := ps_law_piece) fun _ _ _ _ _ _ us hl => match us, hl with | [_, _, _], _ => rfl)
theorem o_law_root (x : Ctx w K mg base) : Df (mkG w K mg base) 1 SpH.d_law_root ps_law_root p_law_root := df_of x 75 (d := SpH.d_law_root) rfl (N := n_law_root) sc_law_root (b := b_law_root) ck_law_root d_law_root (l := []) (by kernel_rfl) f0
theorem k_law_root (x : Ctx w K mg base) : CallOk (mkG w K mg base) 1 e_law_root := c_pos x (o_law_root x) 59 (name := "_law_root") rfl rfl (fun fd F => F.bindsN (ps := ps_law_root) fun _ _ _ _ _ _ us hl => match us, hl with | [_], _ => rfl)
theorem o_law_up (x : Ctx w K mg base) : Df (mkG w K mg base) 2 SpH.d_law_up ps_law_up p_law_up := df_of x 76 (d := SpH.d_law_up) rfl (N := n_law_up) sc_law_up (b := b_law_up) ck_law_up d_law_up (l := [(none, e_law_root)]) (by kernel_rfl) (f1 ((k_law_root x).mono (by decide : 1 ≤ 1)) f0)
theorem k_law_up (x : Ctx w K mg base) : CallOk (mkG w K mg base) 2 e_law_up := c_pos x (o_law_up x) 60 (name := "_law_up") rfl rfl (fun fd F => F.bindsN (ps := ps_law_up) fun _ _ _ _ _ _ us hl => match us, hl with | [_], _ => rfl)
theorem o_law_boxes (x : Ctx w K mg base) : Df (mkG w K mg base) 1 SpH.d_law_boxes ps_law_boxes p_law_boxes := df_of x 84 (d := SpH.d_law_boxes) rfl (N := n_law_boxes) sc_law_boxes (b := b_law_boxes) ck_law_boxes d_law_boxes (l := []) (by kernel_rfl) f0
theorem k_law_boxes (x : Ctx w K mg base) : CallOk (mkG w K mg base) 1 e_law_boxes := c_pos x (o_law_boxes x) 68 (name := "_law_boxes") rfl rfl (fun fd F => F.bindsN (ps := ps_law_boxes) fun _ _ _ _ _ _ us hl => match us, hl with | [_, _], _ => rfl)
theorem o_law_value (x : Ctx w K mg base) : Df (mkG w K mg base) 3 SpH.d_law_value ps_law_value p_law_value := df_of x 85 (d := SpH.d_law_value) rfl (N := n_law_value) sc_law_value (b := b_law_value) ck_law_value d_law_value (l := [(none, e_law_piece), (none, e_law_root), (none, e_law_up), (none, e_law_boxes), (none, e_law_root), (none, e_law_up), (none, e_law_square), (none, e_law_square), (none, e_law_root), (none, e_law_up), (none, e_law_up), (none, e_law_root), (none, e_law_root), (none, e_law_up)]) (by kernel_rfl) (f1 ((k_law_piece x).mono (by decide : 2 ≤ 2)) (f1 ((k_law_root x).mono (by decide : 1 ≤ 2)) (f1 ((k_law_up x).mono (by decide : 2 ≤ 2)) (f1 ((k_law_boxes x).mono (by decide : 1 ≤ 2)) (f1 ((k_law_root x).mono (by decide : 1 ≤ 2)) (f1 ((k_law_up x).mono (by decide : 2 ≤ 2)) (f1 ((k_law_square x).mono (by decide : 1 ≤ 2)) (f1 ((k_law_square x).mono (by decide : 1 ≤ 2)) (f1 ((k_law_root x).mono (by decide : 1 ≤ 2)) (f1 ((k_law_up x).mono (by decide : 2 ≤ 2)) (f1 ((k_law_up x).mono (by decide : 2 ≤ 2)) (f1 ((k_law_root x).mono (by decide : 1 ≤ 2)) (f1 ((k_law_root x).mono (by decide : 1 ≤ 2)) (f1 ((k_law_up x).mono (by decide : 2 ≤ 2)) f0))))))))))))))
theorem k_law_value (x : Ctx w K mg base) : CallOk (mkG w K mg base) 3 e_law_value := c_pos x (o_law_value x) 69 (name := "_law_value") rfl rfl (fun fd F => F.bindsN (ps := ps_law_value) fun _ _ _ _ _ _ us hl => match us, hl with | [_, _, _], _ => rfl)
theorem o_law_moved (x : Ctx w K mg base) : Df (mkG w K mg base) 1 SpH.d_law_moved ps_law_moved p_law_moved := df_of x 88 (d := SpH.d_law_moved) rfl (N := n_law_moved) sc_law_moved (b := b_law_moved) ck_law_moved d_law_moved (l := []) (by kernel_rfl) f0
theorem k_law_moved (x : Ctx w K mg base) : CallOk (mkG w K mg base) 1 e_law_moved := c_pos x (o_law_moved x) 72 (name := "_law_moved") rfl rfl (fun fd F => F.bindsN (ps := ps_law_moved) fun _ _ _ _ _ _ us hl => match us, hl with | [_, _], _ => rfl)
theorem o_is_name (x : Ctx w K mg base) : Df (mkG w K mg base) 1 SpH.d_is_name ps_is_name p_is_name := df_of x 0 (d := SpH.d_is_name) rfl (N := n_is_name) sc_is_name (b := b_is_name) ck_is_name d_is_name (l := []) (by kernel_rfl) f0
theorem k_is_name (x : Ctx w K mg base) : CallOk (mkG w K mg base) 1 e_is_name := c_pos x (o_is_name x) 0 (name := "is_name") rfl rfl (fun fd F => F.bindsN (ps := ps_is_name) fun _ _ _ _ _ _ us hl => match us, hl with | [_], _ => rfl)
theorem o_kind_in_bounds (x : Ctx w K mg base) : Df (mkG w K mg base) 2 SpH.d_kind_in_bounds ps_kind_in_bounds p_kind_in_bounds := df_of x 4 (d := SpH.d_kind_in_bounds) rfl (N := n_kind_in_bounds) sc_kind_in_bounds (b := b_kind_in_bounds) ck_kind_in_bounds d_kind_in_bounds (l := [(none, e_box_in_room), (none, e_in_room)]) (by kernel_rfl) (f1 ((k_box_in_room x).mono (by decide : 1 ≤ 1)) (f1 ((k_in_room x).mono (by decide : 1 ≤ 1)) f0))
theorem k_kind_in_bounds (x : Ctx w K mg base) : CallOk (mkG w K mg base) 2 e_kind_in_bounds := c_pos x (o_kind_in_bounds x) 3 (name := "kind_in_bounds") rfl rfl (fun fd F => F.bindsN (ps := ps_kind_in_bounds) fun _ _ _ _ _ _ us hl => match us, hl with | [_], _ => rfl)
theorem o_Reading_init (x : Ctx w K mg base) : Df (mkG w K mg base) 3 SpH.d_Reading_init ps_Reading_init i_Reading := df_of x 5 (d := SpH.d_Reading_init) rfl (N := n_Reading_init) sc_Reading_init (b := b_Reading_init) ck_Reading_init d_Reading_init (l := [(none, e_is_name), (none, e_in_room), (none, e_kind_in_bounds)]) (by kernel_rfl) (f1 ((k_is_name x).mono (by decide : 1 ≤ 2)) (f1 ((k_in_room x).mono (by decide : 1 ≤ 2)) (f1 ((k_kind_in_bounds x).mono (by decide : 2 ≤ 2)) f0)))
theorem k_Reading (x : Ctx w K mg base) : CallOk (mkG w K mg base) 4 e_Reading := (c_mkk (ks := ["low", "high", "late", "near"]) (n := 3) x 1 (by decide) (o_Reading_init x) rfl (fun fd F => kb0 (ps := ps_Reading_init) (n := 4) (ks := ["low", "high", "late", "near"]) F fun _ _ _ _ _ _ us ws h1 h2 => match us, ws, h1, h2 with | [_, _, _, _], [_, _, _, _], _, _ => rfl) (by decide) mk_ok)
theorem o_law_reading (x : Ctx w K mg base) : Df (mkG w K mg base) 5 SpH.d_law_reading ps_law_reading p_law_reading := df_of x 89 (d := SpH.d_law_reading) rfl (N := n_law_reading) sc_law_reading (b := b_law_reading) ck_law_reading d_law_reading (l := [(none, e_law_kind), (none, e_law_at), (none, e_law_value), (none, e_law_moved), (none, e_Reading)]) (by kernel_rfl) (f1 ((k_law_kind x).mono (by decide : 3 ≤ 4)) (f1 ((k_law_at x).mono (by decide : 1 ≤ 4)) (f1 ((k_law_value x).mono (by decide : 3 ≤ 4)) (f1 ((k_law_moved x).mono (by decide : 1 ≤ 4)) (f1 ((k_Reading x).mono (by decide : 4 ≤ 4)) f0)))))
theorem k_law_reading (x : Ctx w K mg base) : CallOk (mkG w K mg base) 5 e_law_reading := c_pos x (o_law_reading x) 73 (name := "_law_reading") rfl rfl (fun fd F => F.bindsN (ps := ps_law_reading) fun _ _ _ _ _ _ us hl => match us, hl with | [_, _, _, _, _], _ => rfl)
theorem o_law_readings (x : Ctx w K mg base) : Df (mkG w K mg base) 6 SpH.d_law_readings ps_law_readings p_law_readings := df_of x 90 (d := SpH.d_law_readings) rfl (N := n_law_readings) sc_law_readings (b := b_law_readings) ck_law_readings d_law_readings (l := [(none, e_law_reading)]) (by kernel_rfl) (f1 ((k_law_reading x).mono (by decide : 5 ≤ 5)) f0)
theorem k_law_readings (x : Ctx w K mg base) : CallOk (mkG w K mg base) 6 e_law_readings := c_pos x (o_law_readings x) 74 (name := "_law_readings") rfl rfl (fun fd F => F.bindsN (ps := ps_law_readings) fun _ _ _ _ _ _ us hl => match us, hl with | [_, _, _, _, _, _], _ => rfl)
theorem o_Plan_init (x : Ctx w K mg base) : Df (mkG w K mg base) 1 SpH.d_Plan_init ps_Plan_init i_Plan := df_of x 73 (d := SpH.d_Plan_init) rfl (N := n_Plan_init) sc_Plan_init (b := b_Plan_init) ck_Plan_init d_Plan_init (l := []) (by kernel_rfl) f0
theorem k_Plan (x : Ctx w K mg base) : CallOk (mkG w K mg base) 2 e_Plan := (c_mkk (ks := ["grain", "most", "without"]) (n := 1) x 10 (by decide) (o_Plan_init x) rfl (fun fd F => kb0 (ps := ps_Plan_init) (n := 2) (ks := ["grain", "most", "without"]) F fun _ _ _ _ _ _ us ws h1 h2 => match us, ws, h1, h2 with | [_, _], [_, _, _], _, _ => rfl) (by decide) mk_ok)
theorem o_law_plan (x : Ctx w K mg base) : Df (mkG w K mg base) 3 SpH.d_law_plan ps_law_plan p_law_plan := df_of x 92 (d := SpH.d_law_plan) rfl (N := n_law_plan) sc_law_plan (b := b_law_plan) ck_law_plan d_law_plan (l := [(none, e_Plan)]) (by kernel_rfl) (f1 ((k_Plan x).mono (by decide : 2 ≤ 2)) f0)
theorem k_law_plan (x : Ctx w K mg base) : CallOk (mkG w K mg base) 3 e_law_plan := c_pos x (o_law_plan x) 76 (name := "_law_plan") rfl rfl (fun fd F => F.bindsN (ps := ps_law_plan) fun _ _ _ _ _ _ us hl => match us, hl with | [_, _, _, _], _ => rfl)
theorem o_law_case (x : Ctx w K mg base) : Df (mkG w K mg base) 7 SpH.d_law_case ps_law_case p_law_case := df_of x 93 (d := SpH.d_law_case) rfl (N := n_law_case) sc_law_case (b := b_law_case) ck_law_case d_law_case (l := [(none, e_law_rows), (none, e_law_setting), (none, e_law_way), (none, e_law_question), (none, e_law_readings), (none, e_law_plan), (none, e_law_at)]) (by kernel_rfl) (f1 ((k_law_rows x).mono (by decide : 1 ≤ 6)) (f1 ((k_law_setting x).mono (by decide : 3 ≤ 6)) (f1 ((k_law_way x).mono (by decide : 3 ≤ 6)) (f1 ((k_law_question x).mono (by decide : 4 ≤ 6)) (f1 ((k_law_readings x).mono (by decide : 6 ≤ 6)) (f1 ((k_law_plan x).mono (by decide : 3 ≤ 6)) (f1 ((k_law_at x).mono (by decide : 1 ≤ 6)) f0)))))))
theorem k_law_case (x : Ctx w K mg base) : CallOk (mkG w K mg base) 7 e_law_case := c_pos x (o_law_case x) 77 (name := "_law_case") rfl rfl (fun fd F => F.bindsN (ps := ps_law_case) fun _ _ _ _ _ _ us hl => match us, hl with | [_], _ => rfl)
theorem o_Knowing_init (x : Ctx w K mg base) : Df (mkG w K mg base) 1 SpH.d_Knowing_init ps_Knowing_init i_Knowing := df_of x 66 (d := SpH.d_Knowing_init) rfl (N := n_Knowing_init) sc_Knowing_init (b := b_Knowing_init) ck_Knowing_init d_Knowing_init (l := []) (by kernel_rfl) f0
theorem k_Knowing (x : Ctx w K mg base) : CallOk (mkG w K mg base) 2 e_Knowing := (c_mkp (n := 4) x 9 (by decide) (o_Knowing_init x) rfl (fun fd F => F.bindsN (ps := ps_Knowing_init) fun _ _ _ _ _ _ us hl => match us, hl with | [_, _, _, _, _], _ => rfl) Knowing_ok)
theorem o_asked (x : Ctx w K mg base) : Df (mkG w K mg base) 1 SpH.d_asked ps_asked p_asked := df_of x 7 (d := SpH.d_asked) rfl (N := n_asked) sc_asked (b := b_asked) ck_asked d_asked (l := []) (by kernel_rfl) f0
theorem k_asked (x : Ctx w K mg base) : CallOk (mkG w K mg base) 1 e_asked := c_pos x (o_asked x) 4 (name := "asked") rfl rfl (fun fd F => F.bindsN (ps := ps_asked) fun _ _ _ _ _ _ us hl => match us, hl with | [_, _], _ => rfl)
theorem o_reach (x : Ctx w K mg base) : Df (mkG w K mg base) 1 SpH.d_reach ps_reach p_reach := df_of x 32 (d := SpH.d_reach) rfl (N := n_reach) sc_reach (b := b_reach) ck_reach d_reach (l := []) (by kernel_rfl) f0
theorem k_reach (x : Ctx w K mg base) : CallOk (mkG w K mg base) 1 e_reach := c_pos x (o_reach x) 28 (name := "reach") rfl rfl (fun fd F => F.bindsN (ps := ps_reach) fun _ _ _ _ _ _ us hl => match us, hl with | [_, _], _ => rfl)
theorem o_slip (x : Ctx w K mg base) : Df (mkG w K mg base) 1 SpH.d_slip ps_slip p_slip := df_of x 33 (d := SpH.d_slip) rfl (N := n_slip) sc_slip (b := b_slip) ck_slip d_slip (l := []) (by kernel_rfl) f0
theorem k_slip (x : Ctx w K mg base) : CallOk (mkG w K mg base) 1 e_slip := c_pos x (o_slip x) 29 (name := "slip") rfl rfl (fun fd F => F.bindsN (ps := ps_slip) fun _ _ _ _ _ _ us hl => match us, hl with | [_, _], _ => rfl)
theorem o_widened (x : Ctx w K mg base) : Df (mkG w K mg base) 2 SpH.d_widened ps_widened p_widened := df_of x 35 (d := SpH.d_widened) rfl (N := n_widened) sc_widened (b := b_widened) ck_widened d_widened (l := [(none, e_reach), (none, e_slip)]) (by kernel_rfl) (f1 ((k_reach x).mono (by decide : 1 ≤ 1)) (f1 ((k_slip x).mono (by decide : 1 ≤ 1)) f0))
theorem k_widened (x : Ctx w K mg base) : CallOk (mkG w K mg base) 2 e_widened := c_pos x (o_widened x) 31 (name := "widened") rfl rfl (fun fd F => F.bindsN (ps := ps_widened) fun _ _ _ _ _ _ us hl => match us, hl with | [_, _, _], _ => rfl)
theorem o_root_at (x : Ctx w K mg base) : Df (mkG w K mg base) 3 SpH.d_root_at ps_root_at p_root_at := df_of x 49 (d := SpH.d_root_at) rfl (N := n_root_at) sc_root_at (b := b_root_at) ck_root_at d_root_at (l := [(none, e_widened)]) (by kernel_rfl) (f1 ((k_widened x).mono (by decide : 2 ≤ 2)) f0)
theorem k_root_at (x : Ctx w K mg base) : CallOk (mkG w K mg base) 3 e_root_at := c_pos x (o_root_at x) 42 (name := "root_at") rfl rfl (fun fd F => F.bindsN (ps := ps_root_at) fun _ _ _ _ _ _ us hl => match us, hl with | [_, _, _], _ => rfl)
theorem o_root_up (x : Ctx w K mg base) : Df (mkG w K mg base) 1 SpH.d_root_up ps_root_up p_root_up := df_of x 13 (d := SpH.d_root_up) rfl (N := n_root_up) sc_root_up (b := b_root_up) ck_root_up d_root_up (l := []) (by kernel_rfl) f0
theorem k_root_up (x : Ctx w K mg base) : CallOk (mkG w K mg base) 1 e_root_up := c_pos x (o_root_up x) 9 (name := "root_up") rfl rfl (fun fd F => F.bindsN (ps := ps_root_up) fun _ _ _ _ _ _ us hl => match us, hl with | [_], _ => rfl)
theorem o_dot (x : Ctx w K mg base) : Df (mkG w K mg base) 1 SpH.d_dot ps_dot p_dot := df_of x 25 (d := SpH.d_dot) rfl (N := n_dot) sc_dot (b := b_dot) ck_dot d_dot (l := []) (by kernel_rfl) f0
theorem k_dot (x : Ctx w K mg base) : CallOk (mkG w K mg base) 1 e_dot := c_pos x (o_dot x) 21 (name := "dot") rfl rfl (fun fd F => F.bindsN (ps := ps_dot) fun _ _ _ _ _ _ us hl => match us, hl with | [_, _], _ => rfl)
theorem o_rate (x : Ctx w K mg base) : Df (mkG w K mg base) 2 SpH.d_rate ps_rate p_rate := df_of x 36 (d := SpH.d_rate) rfl (N := n_rate) sc_rate (b := b_rate) ck_rate d_rate (l := [(none, e_root_up), (none, e_dot)]) (by kernel_rfl) (f1 ((k_root_up x).mono (by decide : 1 ≤ 1)) (f1 ((k_dot x).mono (by decide : 1 ≤ 1)) f0))
theorem k_rate (x : Ctx w K mg base) : CallOk (mkG w K mg base) 2 e_rate := c_pos x (o_rate x) 32 (name := "rate") rfl rfl (fun fd F => F.bindsN (ps := ps_rate) fun _ _ _ _ _ _ us hl => match us, hl with | [_], _ => rfl)
theorem o_clock_rate (x : Ctx w K mg base) : Df (mkG w K mg base) 1 SpH.d_clock_rate ps_clock_rate p_clock_rate := df_of x 37 (d := SpH.d_clock_rate) rfl (N := n_clock_rate) sc_clock_rate (b := b_clock_rate) ck_clock_rate d_clock_rate (l := []) (by kernel_rfl) f0
theorem k_clock_rate (x : Ctx w K mg base) : CallOk (mkG w K mg base) 1 e_clock_rate := c_pos x (o_clock_rate x) 33 (name := "clock_rate") rfl rfl (fun fd F => F.bindsN (ps := ps_clock_rate) fun _ _ _ _ _ _ us hl => match us, hl with | [_], _ => rfl)
theorem o_moved (x : Ctx w K mg base) : Df (mkG w K mg base) 1 SpH.d_moved ps_moved p_moved := df_of x 38 (d := SpH.d_moved) rfl (N := n_moved) sc_moved (b := b_moved) ck_moved d_moved (l := []) (by kernel_rfl) f0
theorem k_moved (x : Ctx w K mg base) : CallOk (mkG w K mg base) 1 e_moved := c_pos x (o_moved x) 34 (name := "moved") rfl rfl (fun fd F => F.bindsN (ps := ps_moved) fun _ _ _ _ _ _ us hl => match us, hl with | [_], _ => rfl)
theorem o_carried (x : Ctx w K mg base) : Df (mkG w K mg base) 3 SpH.d_carried ps_carried p_carried := df_of x 39 (d := SpH.d_carried) rfl (N := n_carried) sc_carried (b := b_carried) ck_carried d_carried (l := [(none, e_rate), (none, e_reach), (none, e_clock_rate), (none, e_slip), (none, e_moved)]) (by kernel_rfl) (f1 ((k_rate x).mono (by decide : 2 ≤ 2)) (f1 ((k_reach x).mono (by decide : 1 ≤ 2)) (f1 ((k_clock_rate x).mono (by decide : 1 ≤ 2)) (f1 ((k_slip x).mono (by decide : 1 ≤ 2)) (f1 ((k_moved x).mono (by decide : 1 ≤ 2)) f0)))))
theorem k_carried (x : Ctx w K mg base) : CallOk (mkG w K mg base) 3 e_carried := c_pos x (o_carried x) 35 (name := "carried") rfl rfl (fun fd F => F.bindsN (ps := ps_carried) fun _ _ _ _ _ _ us hl => match us, hl with | [_, _, _], _ => rfl)
theorem o_root_down (x : Ctx w K mg base) : Df (mkG w K mg base) 1 SpH.d_root_down ps_root_down p_root_down := df_of x 12 (d := SpH.d_root_down) rfl (N := n_root_down) sc_root_down (b := b_root_down) ck_root_down d_root_down (l := []) (by kernel_rfl) f0
theorem k_root_down (x : Ctx w K mg base) : CallOk (mkG w K mg base) 1 e_root_down := c_pos x (o_root_down x) 8 (name := "root_down") rfl rfl (fun fd F => F.bindsN (ps := ps_root_down) fun _ _ _ _ _ _ us hl => match us, hl with | [_], _ => rfl)
theorem o_nearest (x : Ctx w K mg base) : Df (mkG w K mg base) 1 SpH.d_nearest ps_nearest p_nearest := df_of x 22 (d := SpH.d_nearest) rfl (N := n_nearest) sc_nearest (b := b_nearest) ck_nearest d_nearest (l := []) (by kernel_rfl) f0
theorem k_nearest (x : Ctx w K mg base) : CallOk (mkG w K mg base) 1 e_nearest := c_pos x (o_nearest x) 18 (name := "nearest") rfl rfl (fun fd F => F.bindsN (ps := ps_nearest) fun _ _ _ _ _ _ us hl => match us, hl with | [_, _], _ => rfl)
theorem o_farthest (x : Ctx w K mg base) : Df (mkG w K mg base) 1 SpH.d_farthest ps_farthest p_farthest := df_of x 23 (d := SpH.d_farthest) rfl (N := n_farthest) sc_farthest (b := b_farthest) ck_farthest d_farthest (l := []) (by kernel_rfl) f0
theorem k_farthest (x : Ctx w K mg base) : CallOk (mkG w K mg base) 1 e_farthest := c_pos x (o_farthest x) 19 (name := "farthest") rfl rfl (fun fd F => F.bindsN (ps := ps_farthest) fun _ _ _ _ _ _ us hl => match us, hl with | [_, _], _ => rfl)
theorem o_distances (x : Ctx w K mg base) : Df (mkG w K mg base) 2 SpH.d_distances ps_distances p_distances := df_of x 24 (d := SpH.d_distances) rfl (N := n_distances) sc_distances (b := b_distances) ck_distances d_distances (l := [(none, e_root_down), (none, e_nearest), (none, e_root_up), (none, e_farthest)]) (by kernel_rfl) (f1 ((k_root_down x).mono (by decide : 1 ≤ 1)) (f1 ((k_nearest x).mono (by decide : 1 ≤ 1)) (f1 ((k_root_up x).mono (by decide : 1 ≤ 1)) (f1 ((k_farthest x).mono (by decide : 1 ≤ 1)) f0))))
theorem k_distances (x : Ctx w K mg base) : CallOk (mkG w K mg base) 2 e_distances := c_pos x (o_distances x) 20 (name := "distances") rfl rfl (fun fd F => F.bindsN (ps := ps_distances) fun _ _ _ _ _ _ us hl => match us, hl with | [_, _], _ => rfl)
theorem o_side_span (x : Ctx w K mg base) : Df (mkG w K mg base) 1 SpH.d_side_span ps_side_span p_side_span := df_of x 28 (d := SpH.d_side_span) rfl (N := n_side_span) sc_side_span (b := b_side_span) ck_side_span d_side_span (l := []) (by kernel_rfl) f0
theorem k_side_span (x : Ctx w K mg base) : CallOk (mkG w K mg base) 1 e_side_span := c_pos x (o_side_span x) 24 (name := "side_span") rfl rfl (fun fd F => F.bindsN (ps := ps_side_span) fun _ _ _ _ _ _ us hl => match us, hl with | [_, _], _ => rfl)
theorem o_minus (x : Ctx w K mg base) : Df (mkG w K mg base) 1 SpH.d_minus ps_minus p_minus := df_of x 26 (d := SpH.d_minus) rfl (N := n_minus) sc_minus (b := b_minus) ck_minus d_minus (l := []) (by kernel_rfl) f0
theorem k_minus (x : Ctx w K mg base) : CallOk (mkG w K mg base) 1 e_minus := c_pos x (o_minus x) 22 (name := "minus") rfl rfl (fun fd F => F.bindsN (ps := ps_minus) fun _ _ _ _ _ _ us hl => match us, hl with | [_, _], _ => rfl)
theorem o_from_piece (x : Ctx w K mg base) : Df (mkG w K mg base) 2 SpH.d_from_piece ps_from_piece p_from_piece := df_of x 27 (d := SpH.d_from_piece) rfl (N := n_from_piece) sc_from_piece (b := b_from_piece) ck_from_piece d_from_piece (l := [(none, e_minus), (none, e_minus), (none, e_dot), (none, e_dot), (none, e_dot), (none, e_minus), (none, e_dot), (none, e_dot)]) (by kernel_rfl) (f1 ((k_minus x).mono (by decide : 1 ≤ 1)) (f1 ((k_minus x).mono (by decide : 1 ≤ 1)) (f1 ((k_dot x).mono (by decide : 1 ≤ 1)) (f1 ((k_dot x).mono (by decide : 1 ≤ 1)) (f1 ((k_dot x).mono (by decide : 1 ≤ 1)) (f1 ((k_minus x).mono (by decide : 1 ≤ 1)) (f1 ((k_dot x).mono (by decide : 1 ≤ 1)) (f1 ((k_dot x).mono (by decide : 1 ≤ 1)) f0))))))))
theorem k_from_piece (x : Ctx w K mg base) : CallOk (mkG w K mg base) 2 e_from_piece := c_pos x (o_from_piece x) 23 (name := "from_piece") rfl rfl (fun fd F => F.bindsN (ps := ps_from_piece) fun _ _ _ _ _ _ us hl => match us, hl with | [_, _, _], _ => rfl)
theorem o_middle (x : Ctx w K mg base) : Df (mkG w K mg base) 1 SpH.d_middle ps_middle p_middle := df_of x 14 (d := SpH.d_middle) rfl (N := n_middle) sc_middle (b := b_middle) ck_middle d_middle (l := []) (by kernel_rfl) f0
theorem k_middle (x : Ctx w K mg base) : CallOk (mkG w K mg base) 1 e_middle := c_pos x (o_middle x) 10 (name := "middle") rfl rfl (fun fd F => F.bindsN (ps := ps_middle) fun _ _ _ _ _ _ us hl => match us, hl with | [_], _ => rfl)
theorem o_half_side (x : Ctx w K mg base) : Df (mkG w K mg base) 1 SpH.d_half_side ps_half_side p_half_side := df_of x 15 (d := SpH.d_half_side) rfl (N := n_half_side) sc_half_side (b := b_half_side) ck_half_side d_half_side (l := []) (by kernel_rfl) f0
theorem k_half_side (x : Ctx w K mg base) : CallOk (mkG w K mg base) 1 e_half_side := c_pos x (o_half_side x) 11 (name := "half_side") rfl rfl (fun fd F => F.bindsN (ps := ps_half_side) fun _ _ _ _ _ _ us hl => match us, hl with | [_], _ => rfl)
theorem o_radius (x : Ctx w K mg base) : Df (mkG w K mg base) 2 SpH.d_radius ps_radius p_radius := df_of x 16 (d := SpH.d_radius) rfl (N := n_radius) sc_radius (b := b_radius) ck_radius d_radius (l := [(none, e_root_up), (none, e_half_side), (none, e_half_side)]) (by kernel_rfl) (f1 ((k_root_up x).mono (by decide : 1 ≤ 1)) (f1 ((k_half_side x).mono (by decide : 1 ≤ 1)) (f1 ((k_half_side x).mono (by decide : 1 ≤ 1)) f0)))
theorem k_radius (x : Ctx w K mg base) : CallOk (mkG w K mg base) 2 e_radius := c_pos x (o_radius x) 12 (name := "radius") rfl rfl (fun fd F => F.bindsN (ps := ps_radius) fun _ _ _ _ _ _ us hl => match us, hl with | [_], _ => rfl)
theorem o_between (x : Ctx w K mg base) : Df (mkG w K mg base) 1 SpH.d_between ps_between p_between := df_of x 29 (d := SpH.d_between) rfl (N := n_between) sc_between (b := b_between) ck_between d_between (l := []) (by kernel_rfl) f0
theorem k_between (x : Ctx w K mg base) : CallOk (mkG w K mg base) 1 e_between := c_pos x (o_between x) 25 (name := "between") rfl rfl (fun fd F => F.bindsN (ps := ps_between) fun _ _ _ _ _ _ us hl => match us, hl with | [_, _], _ => rfl)
theorem o_greatest_from (x : Ctx w K mg base) : Df (mkG w K mg base) 1 SpH.d_greatest_from ps_greatest_from p_greatest_from := df_of x 30 (d := SpH.d_greatest_from) rfl (N := n_greatest_from) sc_greatest_from (b := b_greatest_from) ck_greatest_from d_greatest_from (l := []) (by kernel_rfl) f0
theorem k_greatest_from (x : Ctx w K mg base) : CallOk (mkG w K mg base) 1 e_greatest_from := c_pos x (o_greatest_from x) 26 (name := "greatest_from") rfl rfl (fun fd F => F.bindsN (ps := ps_greatest_from) fun _ _ _ _ _ _ us hl => match us, hl with | [_, _], _ => rfl)
theorem o_span (x : Ctx w K mg base) : Df (mkG w K mg base) 3 SpH.d_span ps_span p_span := df_of x 31 (d := SpH.d_span) rfl (N := n_span) sc_span (b := b_span) ck_span d_span (l := [(none, e_distances), (none, e_distances), (none, e_distances), (none, e_distances), (none, e_side_span), (none, e_from_piece), (none, e_middle), (none, e_root_down), (none, e_radius), (none, e_root_up), (none, e_radius), (none, e_between), (none, e_root_down), (none, e_root_up), (none, e_greatest_from)]) (by kernel_rfl) (f1 ((k_distances x).mono (by decide : 2 ≤ 2)) (f1 ((k_distances x).mono (by decide : 2 ≤ 2)) (f1 ((k_distances x).mono (by decide : 2 ≤ 2)) (f1 ((k_distances x).mono (by decide : 2 ≤ 2)) (f1 ((k_side_span x).mono (by decide : 1 ≤ 2)) (f1 ((k_from_piece x).mono (by decide : 2 ≤ 2)) (f1 ((k_middle x).mono (by decide : 1 ≤ 2)) (f1 ((k_root_down x).mono (by decide : 1 ≤ 2)) (f1 ((k_radius x).mono (by decide : 2 ≤ 2)) (f1 ((k_root_up x).mono (by decide : 1 ≤ 2)) (f1 ((k_radius x).mono (by decide : 2 ≤ 2)) (f1 ((k_between x).mono (by decide : 1 ≤ 2)) (f1 ((k_root_down x).mono (by decide : 1 ≤ 2)) (f1 ((k_root_up x).mono (by decide : 1 ≤ 2)) (f1 ((k_greatest_from x).mono (by decide : 1 ≤ 2)) f0)))))))))))))))
theorem k_span (x : Ctx w K mg base) : CallOk (mkG w K mg base) 3 e_span := c_pos x (o_span x) 27 (name := "span") rfl rfl (fun fd F => F.bindsN (ps := ps_span) fun _ _ _ _ _ _ us hl => match us, hl with | [_, _], _ => rfl)
theorem o_excludes (x : Ctx w K mg base) : Df (mkG w K mg base) 4 SpH.d_excludes ps_excludes p_excludes := df_of x 40 (d := SpH.d_excludes) rfl (N := n_excludes) sc_excludes (b := b_excludes) ck_excludes d_excludes (l := [(none, e_carried), (none, e_span)]) (by kernel_rfl) (f1 ((k_carried x).mono (by decide : 3 ≤ 3)) (f1 ((k_span x).mono (by decide : 3 ≤ 3)) f0))
theorem k_excludes (x : Ctx w K mg base) : CallOk (mkG w K mg base) 4 e_excludes := c_pos x (o_excludes x) 36 (name := "excludes") rfl rfl (fun fd F => F.bindsN (ps := ps_excludes) fun _ _ _ _ _ _ us hl => match us, hl with | [_, _, _, _], _ => rfl)
theorem o_farther (x : Ctx w K mg base) : Df (mkG w K mg base) 2 SpH.d_farther ps_farther p_farther := df_of x 34 (d := SpH.d_farther) rfl (N := n_farther) sc_farther (b := b_farther) ck_farther d_farther (l := [(none, e_between)]) (by kernel_rfl) (f1 ((k_between x).mono (by decide : 1 ≤ 1)) f0)
theorem k_farther (x : Ctx w K mg base) : CallOk (mkG w K mg base) 2 e_farther := c_pos x (o_farther x) 30 (name := "farther") rfl rfl (fun fd F => F.bindsN (ps := ps_farther) fun _ _ _ _ _ _ us hl => match us, hl with | [_, _, _, _], _ => rfl)
theorem o_far (x : Ctx w K mg base) : Df (mkG w K mg base) 3 SpH.d_far ps_far p_far := df_of x 67 (d := SpH.d_far) rfl (N := n_far) sc_far (b := b_far) ck_far d_far (l := [(none, e_farther)]) (by kernel_rfl) (f1 ((k_farther x).mono (by decide : 2 ≤ 2)) f0)
theorem k_far (x : Ctx w K mg base) : MethOk (mkG w K mg base) 3 9 e_far := c_meth x 9 (by decide) (o_far x) 196 (name := "far") rfl rfl (fun fd F => F.bindsN (ps := ps_far) fun _ _ _ _ _ _ us hl => match us, hl with | [_, _, _, _], _ => rfl) (by decide)
theorem o_left_out (x : Ctx w K mg base) : Df (mkG w K mg base) 5 SpH.d_left_out ps_left_out p_left_out := df_of x 68 (d := SpH.d_left_out) rfl (N := n_left_out) sc_left_out (b := b_left_out) ck_left_out d_left_out (l := [(none, e_excludes), (some 9, e_far)]) (by kernel_rfl) (f1 ((k_excludes x).mono (by decide : 4 ≤ 4)) (f1 ((k_far x).mono (by decide : 3 ≤ 4)) f0))
theorem k_left_out (x : Ctx w K mg base) : MethOk (mkG w K mg base) 5 9 e_left_out := c_meth x 9 (by decide) (o_left_out x) 197 (name := "left_out") rfl rfl (fun fd F => F.bindsN (ps := ps_left_out) fun _ _ _ _ _ _ us hl => match us, hl with | [_, _, _, _, _], _ => rfl) (by decide)
theorem o_widest (x : Ctx w K mg base) : Df (mkG w K mg base) 1 SpH.d_widest ps_widest p_widest := df_of x 19 (d := SpH.d_widest) rfl (N := n_widest) sc_widest (b := b_widest) ck_widest d_widest (l := []) (by kernel_rfl) f0
theorem k_widest (x : Ctx w K mg base) : CallOk (mkG w K mg base) 1 e_widest := c_pos x (o_widest x) 15 (name := "widest") rfl rfl (fun fd F => F.bindsN (ps := ps_widest) fun _ _ _ _ _ _ us hl => match us, hl with | [_], _ => rfl)
theorem o_cut (x : Ctx w K mg base) : Df (mkG w K mg base) 1 SpH.d_cut ps_cut p_cut := df_of x 20 (d := SpH.d_cut) rfl (N := n_cut) sc_cut (b := b_cut) ck_cut d_cut (l := []) (by kernel_rfl) f0
theorem k_cut (x : Ctx w K mg base) : CallOk (mkG w K mg base) 1 e_cut := c_pos x (o_cut x) 16 (name := "cut") rfl rfl (fun fd F => F.bindsN (ps := ps_cut) fun _ _ _ _ _ _ us hl => match us, hl with | [_, _, _], _ => rfl)
theorem o_halves (x : Ctx w K mg base) : Df (mkG w K mg base) 2 SpH.d_halves ps_halves p_halves := df_of x 21 (d := SpH.d_halves) rfl (N := n_halves) sc_halves (b := b_halves) ck_halves d_halves (l := [(none, e_widest), (none, e_cut)]) (by kernel_rfl) (f1 ((k_widest x).mono (by decide : 1 ≤ 1)) (f1 ((k_cut x).mono (by decide : 1 ≤ 1)) f0))
theorem k_halves (x : Ctx w K mg base) : CallOk (mkG w K mg base) 2 e_halves := c_pos x (o_halves x) 17 (name := "halves") rfl rfl (fun fd F => F.bindsN (ps := ps_halves) fun _ _ _ _ _ _ us hl => match us, hl with | [_], _ => rfl)
theorem o_is_small (x : Ctx w K mg base) : Df (mkG w K mg base) 1 SpH.d_is_small ps_is_small p_is_small := df_of x 18 (d := SpH.d_is_small) rfl (N := n_is_small) sc_is_small (b := b_is_small) ck_is_small d_is_small (l := []) (by kernel_rfl) f0
theorem k_is_small (x : Ctx w K mg base) : CallOk (mkG w K mg base) 1 e_is_small := c_pos x (o_is_small x) 14 (name := "is_small") rfl rfl (fun fd F => F.bindsN (ps := ps_is_small) fun _ _ _ _ _ _ us hl => match us, hl with | [_, _], _ => rfl)
theorem o_make_cover (x : Ctx w K mg base) : Df (mkG w K mg base) 6 SpH.d_make_cover ps_make_cover p_make_cover := df_of x 69 (d := SpH.d_make_cover) rfl (N := n_make_cover) sc_make_cover (b := b_make_cover) ck_make_cover d_make_cover (l := [(none, e_root_at), (some 9, e_left_out), (none, e_halves), (none, e_is_small), (none, e_widest)]) (by kernel_rfl) (f1 ((k_root_at x).mono (by decide : 3 ≤ 5)) (f1 ((k_left_out x).mono (by decide : 5 ≤ 5)) (f1 ((k_halves x).mono (by decide : 2 ≤ 5)) (f1 ((k_is_small x).mono (by decide : 1 ≤ 5)) (f1 ((k_widest x).mono (by decide : 1 ≤ 5)) f0)))))
theorem k_make_cover (x : Ctx w K mg base) : MethOk (mkG w K mg base) 6 9 e_make_cover := c_meth x 9 (by decide) (o_make_cover x) 198 (name := "make_cover") rfl rfl (fun fd F => F.bindsN (ps := ps_make_cover) fun _ _ _ _ _ _ us hl => match us, hl with | [_, _, _, _], _ => rfl) (by decide)
theorem o_by_reading (x : Ctx w K mg base) : Df (mkG w K mg base) 5 SpH.d_by_reading ps_by_reading p_by_reading := df_of x 42 (d := SpH.d_by_reading) rfl (N := n_by_reading) sc_by_reading (b := b_by_reading) ck_by_reading d_by_reading (l := [(none, e_excludes)]) (by kernel_rfl) (f1 ((k_excludes x).mono (by decide : 4 ≤ 4)) f0)
theorem k_by_reading (x : Ctx w K mg base) : CallOk (mkG w K mg base) 5 e_by_reading := c_pos x (o_by_reading x) 37 (name := "_by_reading") rfl rfl (fun fd F => F.bindsN (ps := ps_by_reading) fun _ _ _ _ _ _ us hl => match us, hl with | [_, _, _, _, _], _ => rfl)
theorem o_by_known (x : Ctx w K mg base) : Df (mkG w K mg base) 3 SpH.d_by_known ps_by_known p_by_known := df_of x 43 (d := SpH.d_by_known) rfl (N := n_by_known) sc_by_known (b := b_by_known) ck_by_known d_by_known (l := [(none, e_farther)]) (by kernel_rfl) (f1 ((k_farther x).mono (by decide : 2 ≤ 2)) f0)
theorem k_by_known (x : Ctx w K mg base) : CallOk (mkG w K mg base) 3 e_by_known := c_pos x (o_by_known x) 38 (name := "_by_known") rfl rfl (fun fd F => F.bindsN (ps := ps_by_known) fun _ _ _ _ _ _ us hl => match us, hl with | [_, _, _, _, _], _ => rfl)
theorem o_inside (x : Ctx w K mg base) : Df (mkG w K mg base) 1 SpH.d_inside ps_inside p_inside := df_of x 17 (d := SpH.d_inside) rfl (N := n_inside) sc_inside (b := b_inside) ck_inside d_inside (l := []) (by kernel_rfl) f0
theorem k_inside (x : Ctx w K mg base) : CallOk (mkG w K mg base) 1 e_inside := c_pos x (o_inside x) 13 (name := "inside") rfl rfl (fun fd F => F.bindsN (ps := ps_inside) fun _ _ _ _ _ _ us hl => match us, hl with | [_, _], _ => rfl)
theorem o_by_kept (x : Ctx w K mg base) : Df (mkG w K mg base) 2 SpH.d_by_kept ps_by_kept p_by_kept := df_of x 44 (d := SpH.d_by_kept) rfl (N := n_by_kept) sc_by_kept (b := b_by_kept) ck_by_kept d_by_kept (l := [(none, e_inside)]) (by kernel_rfl) (f1 ((k_inside x).mono (by decide : 1 ≤ 1)) f0)
theorem k_by_kept (x : Ctx w K mg base) : CallOk (mkG w K mg base) 2 e_by_kept := c_pos x (o_by_kept x) 39 (name := "_by_kept") rfl rfl (fun fd F => F.bindsN (ps := ps_by_kept) fun _ _ _ _ _ _ us hl => match us, hl with | [_, _, _], _ => rfl)
theorem o_by_step (x : Ctx w K mg base) : Df (mkG w K mg base) 6 SpH.d_by_step ps_by_step p_by_step := df_of x 45 (d := SpH.d_by_step) rfl (N := n_by_step) sc_by_step (b := b_by_step) ck_by_step d_by_step (l := [(none, e_by_reading), (none, e_by_known), (none, e_by_kept)]) (by kernel_rfl) (f1 ((k_by_reading x).mono (by decide : 5 ≤ 5)) (f1 ((k_by_known x).mono (by decide : 3 ≤ 5)) (f1 ((k_by_kept x).mono (by decide : 2 ≤ 5)) f0)))
theorem k_by_step (x : Ctx w K mg base) : CallOk (mkG w K mg base) 6 e_by_step := c_pos x (o_by_step x) 40 (name := "_by_step") rfl rfl (fun fd F => F.bindsN (ps := ps_by_step) fun _ _ _ _ _ _ us hl => match us, hl with | [_, _, _, _, _, _, _], _ => rfl)
theorem o_judge_tree (x : Ctx w K mg base) : Df (mkG w K mg base) 7 SpH.d_judge_tree ps_judge_tree p_judge_tree := df_of x 46 (d := SpH.d_judge_tree) rfl (N := n_judge_tree) sc_judge_tree (b := b_judge_tree) ck_judge_tree d_judge_tree (l := [(none, e_cut), (none, e_by_step)]) (by kernel_rfl) (f1 ((k_cut x).mono (by decide : 1 ≤ 6)) (f1 ((k_by_step x).mono (by decide : 6 ≤ 6)) f0))
theorem k_judge_tree (x : Ctx w K mg base) : CallOk (mkG w K mg base) 7 e_judge_tree := c_pos x (o_judge_tree x) 41 (name := "judge_tree") rfl rfl (fun fd F => F.bindsN (ps := ps_judge_tree) fun _ _ _ _ _ _ us hl => match us, hl with | [_, _, _, _, _, _, _], _ => rfl)
theorem o_Known_init (x : Ctx w K mg base) : Df (mkG w K mg base) 1 SpH.d_Known_init ps_Known_init i_Known := df_of x 47 (d := SpH.d_Known_init) rfl (N := n_Known_init) sc_Known_init (b := b_Known_init) ck_Known_init d_Known_init (l := []) (by kernel_rfl) f0
theorem k_Known (x : Ctx w K mg base) : CallOk (mkG w K mg base) 2 e_Known := (c_mkp (n := 3) x 5 (by decide) (o_Known_init x) rfl (fun fd F => F.bindsN (ps := ps_Known_init) fun _ _ _ _ _ _ us hl => match us, hl with | [_, _, _, _], _ => rfl) mk_ok)
theorem o_Held_init (x : Ctx w K mg base) : Df (mkG w K mg base) 1 SpH.d_Held_init ps_Held_init i_Held := df_of x 41 (d := SpH.d_Held_init) rfl (N := n_Held_init) sc_Held_init (b := b_Held_init) ck_Held_init d_Held_init (l := []) (by kernel_rfl) f0
theorem k_Held (x : Ctx w K mg base) : CallOk (mkG w K mg base) 2 e_Held := (c_mkp (n := 3) x 4 (by decide) (o_Held_init x) rfl (fun fd F => F.bindsN (ps := ps_Held_init) fun _ _ _ _ _ _ us hl => match us, hl with | [_, _, _, _], _ => rfl) mk_ok)
theorem o_add (x : Ctx w K mg base) : Df (mkG w K mg base) 8 SpH.d_add ps_add p_add := df_of x 70 (d := SpH.d_add) rfl (N := n_add) sc_add (b := b_add) ck_add d_add (l := [(some 9, e_make_cover), (none, e_root_at), (none, e_judge_tree), (none, e_Known), (none, e_Held)]) (by kernel_rfl) (f1 ((k_make_cover x).mono (by decide : 6 ≤ 7)) (f1 ((k_root_at x).mono (by decide : 3 ≤ 7)) (f1 ((k_judge_tree x).mono (by decide : 7 ≤ 7)) (f1 ((k_Known x).mono (by decide : 2 ≤ 7)) (f1 ((k_Held x).mono (by decide : 2 ≤ 7)) f0)))))
theorem k_add (x : Ctx w K mg base) : MethOk (mkG w K mg base) 8 9 e_add := c_meth x 9 (by decide) (o_add x) 199 (name := "add") rfl rfl (fun fd F => F.bindsN (ps := ps_add) fun _ _ _ _ _ _ us hl => match us, hl with | [_, _, _, _], _ => rfl) (by decide)
theorem o_add_row (x : Ctx w K mg base) : Df (mkG w K mg base) 9 SpH.d_add_row ps_add_row p_add_row := df_of x 71 (d := SpH.d_add_row) rfl (N := n_add_row) sc_add_row (b := b_add_row) ck_add_row d_add_row (l := [(some 9, e_add)]) (by kernel_rfl) (f1 ((k_add x).mono (by decide : 8 ≤ 8)) f0)
theorem k_add_row (x : Ctx w K mg base) : MethOk (mkG w K mg base) 9 9 e_add_row := c_meth x 9 (by decide) (o_add_row x) 200 (name := "add_row") rfl rfl (fun fd F => F.bindsN (ps := ps_add_row) fun _ _ _ _ _ _ us hl => match us, hl with | [_, _, _], _ => rfl) (by decide)
theorem o_Row_init (x : Ctx w K mg base) : Df (mkG w K mg base) 1 SpH.d_Row_init ps_Row_init i_Row := df_of x 65 (d := SpH.d_Row_init) rfl (N := n_Row_init) sc_Row_init (b := b_Row_init) ck_Row_init d_Row_init (l := []) (by kernel_rfl) f0
theorem k_Row (x : Ctx w K mg base) : CallOk (mkG w K mg base) 2 e_Row := (c_mkp (n := 3) x 8 (by decide) (o_Row_init x) rfl (fun fd F => F.bindsN (ps := ps_Row_init) fun _ _ _ _ _ _ us hl => match us, hl with | [_, _, _, _], _ => rfl) mk_ok)
theorem o_know (x : Ctx w K mg base) : Df (mkG w K mg base) 10 SpH.d_know ps_know p_know := df_of x 72 (d := SpH.d_know) rfl (N := n_know) sc_know (b := b_know) ck_know d_know (l := [(none, e_Knowing), (none, e_asked), (some 9, e_add_row), (some 9, e_add_row), (none, e_Row)]) (by kernel_rfl) (f1 ((k_Knowing x).mono (by decide : 2 ≤ 9)) (f1 ((k_asked x).mono (by decide : 1 ≤ 9)) (f1 ((k_add_row x).mono (by decide : 9 ≤ 9)) (f1 ((k_add_row x).mono (by decide : 9 ≤ 9)) (f1 ((k_Row x).mono (by decide : 2 ≤ 9)) f0)))))
theorem k_know (x : Ctx w K mg base) : CallOk (mkG w K mg base) 10 e_know := c_pos x (o_know x) 57 (name := "know") rfl rfl (fun fd F => F.bindsN (ps := ps_know) fun _ _ _ _ _ _ us hl => match us, hl with | [_, _, _, _], _ => rfl)
theorem o_judge_next (x : Ctx w K mg base) : Df (mkG w K mg base) 8 SpH.d_judge_next ps_judge_next p_judge_next := df_of x 50 (d := SpH.d_judge_next) rfl (N := n_judge_next) sc_judge_next (b := b_judge_next) ck_judge_next d_judge_next (l := [(none, e_root_at), (none, e_judge_tree), (none, e_Held)]) (by kernel_rfl) (f1 ((k_root_at x).mono (by decide : 3 ≤ 7)) (f1 ((k_judge_tree x).mono (by decide : 7 ≤ 7)) (f1 ((k_Held x).mono (by decide : 2 ≤ 7)) f0)))
theorem k_judge_next (x : Ctx w K mg base) : CallOk (mkG w K mg base) 8 e_judge_next := c_pos x (o_judge_next x) 43 (name := "judge_next") rfl rfl (fun fd F => F.bindsN (ps := ps_judge_next) fun _ _ _ _ _ _ us hl => match us, hl with | [_, _, _, _, _], _ => rfl)
theorem o_judge_known (x : Ctx w K mg base) : Df (mkG w K mg base) 9 SpH.d_judge_known ps_judge_known p_judge_known := df_of x 51 (d := SpH.d_judge_known) rfl (N := n_judge_known) sc_judge_known (b := b_judge_known) ck_judge_known d_judge_known (l := [(none, e_asked), (none, e_judge_next)]) (by kernel_rfl) (f1 ((k_asked x).mono (by decide : 1 ≤ 8)) (f1 ((k_judge_next x).mono (by decide : 8 ≤ 8)) f0))
theorem k_judge_known (x : Ctx w K mg base) : CallOk (mkG w K mg base) 9 e_judge_known := c_pos x (o_judge_known x) 44 (name := "judge_known") rfl rfl (fun fd F => F.bindsN (ps := ps_judge_known) fun _ _ _ _ _ _ us hl => match us, hl with | [_, _, _, _], _ => rfl)
theorem o_used_by (x : Ctx w K mg base) : Df (mkG w K mg base) 8 SpH.d_used_by ps_used_by p_used_by := df_of x 52 (d := SpH.d_used_by) rfl (N := n_used_by) sc_used_by (b := b_used_by) ck_used_by d_used_by (l := [(none, e_asked), (none, e_judge_tree)]) (by kernel_rfl) (f1 ((k_asked x).mono (by decide : 1 ≤ 7)) (f1 ((k_judge_tree x).mono (by decide : 7 ≤ 7)) f0))
theorem k_used_by (x : Ctx w K mg base) : CallOk (mkG w K mg base) 8 e_used_by := c_pos x (o_used_by x) 45 (name := "used_by") rfl rfl (fun fd F => F.bindsN (ps := ps_used_by) fun _ _ _ _ _ _ us hl => match us, hl with | [_, _, _, _, _, _], _ => rfl)
theorem o_first_unmet (x : Ctx w K mg base) : Df (mkG w K mg base) 1 SpH.d_first_unmet ps_first_unmet p_first_unmet := df_of x 61 (d := SpH.d_first_unmet) rfl (N := n_first_unmet) sc_first_unmet (b := b_first_unmet) ck_first_unmet d_first_unmet (l := []) (by kernel_rfl) f0
theorem k_first_unmet (x : Ctx w K mg base) : CallOk (mkG w K mg base) 1 e_first_unmet := c_pos x (o_first_unmet x) 53 (name := "first_unmet") rfl rfl (fun fd F => F.bindsN (ps := ps_first_unmet) fun _ _ _ _ _ _ us hl => match us, hl with | [_, _], _ => rfl)
theorem o_suspects (x : Ctx w K mg base) : Df (mkG w K mg base) 1 SpH.d_suspects ps_suspects p_suspects := df_of x 60 (d := SpH.d_suspects) rfl (N := n_suspects) sc_suspects (b := b_suspects) ck_suspects d_suspects (l := []) (by kernel_rfl) f0
theorem k_suspects (x : Ctx w K mg base) : CallOk (mkG w K mg base) 1 e_suspects := c_pos x (o_suspects x) 52 (name := "suspects") rfl rfl (fun fd F => F.bindsN (ps := ps_suspects) fun _ _ _ _ _ _ us hl => match us, hl with | [_, _], _ => rfl)
theorem o_add_no (x : Ctx w K mg base) : Df (mkG w K mg base) 0 SpH.d_add_steps ps_add_steps (fun _ _ _ => False) := df_no x 63 (d := SpH.d_add_steps) rfl
theorem b_add_binds {K : PySem.W.Frag} : ∀ fd, FDo K SpH.d_add_steps fd → Binds K fd ps_add_steps [] := fun fd F => F.bindsN (ps := ps_add_steps) fun _ _ _ _ _ _ us hl => match us, hl with | [_, _, _, _, _], _ => rfl
theorem k_add_none (x : Ctx w K mg base) : CallOk (mkG w K mg base) 0 e_add_none := c_pos x (o_add_no x) 55 (name := "_add_steps") rfl rfl b_add_binds
theorem o_add_0 (x : Ctx w K mg base) : Df (mkG w K mg base) 2 SpH.d_add_steps ps_add_steps (p_add_steps 0) := df_of x 63 (d := SpH.d_add_steps) rfl (N := n_add_steps) sc_add_steps (b := b_add_steps e_add_none) (ck_add_steps _ rfl rfl rfl) d_add_steps0 (l := [(none, e_first_unmet), (none, e_suspects), (none, e_add_none)]) (by kernel_rfl) (f1 ((k_first_unmet x).mono (by decide : 1 ≤ 1)) (f1 ((k_suspects x).mono (by decide : 1 ≤ 1)) (f1 ((k_add_none x).mono (by decide : 0 ≤ 1)) f0)))
theorem k_add_0 (x : Ctx w K mg base) : CallOk (mkG w K mg base) 2 (e_add_steps 0) := c_pos x (o_add_0 x) 55 (name := "_add_steps") rfl rfl b_add_binds
theorem o_add_1 (x : Ctx w K mg base) : Df (mkG w K mg base) 3 SpH.d_add_steps ps_add_steps (p_add_steps 1) := df_of x 63 (d := SpH.d_add_steps) rfl (N := n_add_steps) sc_add_steps (b := b_add_steps (e_add_steps 0)) (ck_add_steps _ rfl rfl rfl) (d_add_stepsS 0) (l := [(none, e_first_unmet), (none, e_suspects), (none, (e_add_steps 0))]) (by kernel_rfl) (f1 ((k_first_unmet x).mono (by decide : 1 ≤ 2)) (f1 ((k_suspects x).mono (by decide : 1 ≤ 2)) (f1 ((k_add_0 x).mono (by decide : 2 ≤ 2)) f0)))
theorem k_add_1 (x : Ctx w K mg base) : CallOk (mkG w K mg base) 3 (e_add_steps 1) := c_pos x (o_add_1 x) 55 (name := "_add_steps") rfl rfl b_add_binds
theorem o_add_2 (x : Ctx w K mg base) : Df (mkG w K mg base) 4 SpH.d_add_steps ps_add_steps (p_add_steps 2) := df_of x 63 (d := SpH.d_add_steps) rfl (N := n_add_steps) sc_add_steps (b := b_add_steps (e_add_steps 1)) (ck_add_steps _ rfl rfl rfl) (d_add_stepsS 1) (l := [(none, e_first_unmet), (none, e_suspects), (none, (e_add_steps 1))]) (by kernel_rfl) (f1 ((k_first_unmet x).mono (by decide : 1 ≤ 3)) (f1 ((k_suspects x).mono (by decide : 1 ≤ 3)) (f1 ((k_add_1 x).mono (by decide : 3 ≤ 3)) f0)))
theorem k_add_2 (x : Ctx w K mg base) : CallOk (mkG w K mg base) 4 (e_add_steps 2) := c_pos x (o_add_2 x) 55 (name := "_add_steps") rfl rfl b_add_binds
theorem o_add_any (x : Ctx w K mg base) : Df (mkG w K mg base) 4 SpH.d_add_steps ps_add_steps p_add_any := by
  obtain ⟨fd0, F0, q0⟩ := (o_add_0 x).ex
  obtain ⟨fd1, F1, q1⟩ := (o_add_1 x).ex
  obtain ⟨fd2, F2, q2⟩ := (o_add_2 x).ex
  have h1 : fd1 = fd0 := fd_one F1 F0
  have h2 : fd2 = fd0 := fd_one F2 F0
  subst h1 h2
  have r0 := q0.mono (by decide : 2 ≤ 4)
  have r1 := q1.mono (by decide : 3 ≤ 4)
  exact ⟨_, F2, fn_any r0 r1 q2⟩
theorem k_add_any (x : Ctx w K mg base) : CallOk (mkG w K mg base) 4 e_add_any := c_pos x (o_add_any x) 55 (name := "_add_steps") rfl rfl b_add_binds
theorem o_make_steps (x : Ctx w K mg base) : Df (mkG w K mg base) 5 SpH.d_make_steps ps_make_steps p_make_steps := df_of x 62 (d := SpH.d_make_steps) rfl (N := n_make_steps) sc_make_steps (b := b_make_steps) ck_make_steps d_make_steps (l := [(none, e_add_any)]) (by kernel_rfl) (f1 ((k_add_any x).mono (by decide : 4 ≤ 4)) f0)
theorem k_make_steps (x : Ctx w K mg base) : CallOk (mkG w K mg base) 5 e_make_steps := c_kw x (o_make_steps x) 54 (name := "make_steps") rfl rfl (fun fd F => kb0 (ps := ps_make_steps) (n := 1) (ks := ["honest", "liars"]) F fun _ _ _ _ _ _ us ws h1 h2 => match us, ws, h1, h2 with | [_], [_, _], _, _ => rfl) (by decide)
theorem o_Paper_init (x : Ctx w K mg base) : Df (mkG w K mg base) 1 SpH.d_Paper_init ps_Paper_init i_Paper := df_of x 48 (d := SpH.d_Paper_init) rfl (N := n_Paper_init) sc_Paper_init (b := b_Paper_init) ck_Paper_init d_Paper_init (l := []) (by kernel_rfl) f0
theorem k_Paper (x : Ctx w K mg base) : CallOk (mkG w K mg base) 2 e_Paper := (c_mkp (n := 3) x 6 (by decide) (o_Paper_init x) rfl (fun fd F => F.bindsN (ps := ps_Paper_init) fun _ _ _ _ _ _ us hl => match us, hl with | [_, _, _, _], _ => rfl) mk_ok)
theorem o_make_paper (x : Ctx w K mg base) : Df (mkG w K mg base) 10 SpH.d_make_paper ps_make_paper p_make_paper := df_of x 64 (d := SpH.d_make_paper) rfl (N := n_make_paper) sc_make_paper (b := b_make_paper) ck_make_paper d_make_paper (l := [(none, e_judge_known), (none, e_used_by), (none, e_make_steps), (none, e_Paper)]) (by kernel_rfl) (f1 ((k_judge_known x).mono (by decide : 9 ≤ 9)) (f1 ((k_used_by x).mono (by decide : 8 ≤ 9)) (f1 ((k_make_steps x).mono (by decide : 5 ≤ 9)) (f1 ((k_Paper x).mono (by decide : 2 ≤ 9)) f0))))
theorem k_make_paper (x : Ctx w K mg base) : CallOk (mkG w K mg base) 10 e_make_paper := c_kw x (o_make_paper x) 56 (name := "make_paper") rfl rfl (fun fd F => kb0 (ps := ps_make_paper) (n := 6) (ks := ["honest"]) F fun _ _ _ _ _ _ us ws h1 h2 => match us, ws, h1, h2 with | [_, _, _, _, _, _], [_], _, _ => rfl) (by decide)
theorem o_law_made (x : Ctx w K mg base) : Df (mkG w K mg base) 11 SpH.d_law_made ps_law_made p_law_made := df_of x 94 (d := SpH.d_law_made) rfl (N := n_law_made) sc_law_made (b := b_law_made) ck_law_made d_law_made (l := [(none, e_know), (none, e_make_paper)]) (by kernel_rfl) (f1 ((k_know x).mono (by decide : 10 ≤ 10)) (f1 ((k_make_paper x).mono (by decide : 10 ≤ 10)) f0))
theorem k_law_made (x : Ctx w K mg base) : CallOk (mkG w K mg base) 11 e_law_made := c_pos x (o_law_made x) 78 (name := "_law_made") rfl rfl (fun fd F => F.bindsN (ps := ps_law_made) fun _ _ _ _ _ _ us hl => match us, hl with | [_, _, _, _, _], _ => rfl)
theorem o_Marks_init (x : Ctx w K mg base) : Df (mkG w K mg base) 1 SpH.d_Marks_init ps_Marks_init i_Marks := df_of x 8 (d := SpH.d_Marks_init) rfl (N := n_Marks_init) sc_Marks_init (b := b_Marks_init) ck_Marks_init d_Marks_init (l := []) (by kernel_rfl) f0
theorem k_Marks (x : Ctx w K mg base) : CallOk (mkG w K mg base) 2 e_Marks := (c_mkp (n := 2) x 3 (by decide) (o_Marks_init x) rfl (fun fd F => F.bindsN (ps := ps_Marks_init) fun _ _ _ _ _ _ us hl => match us, hl with | [_, _, _], _ => rfl) mk_ok)
theorem o_step_right (x : Ctx w K mg base) : Df (mkG w K mg base) 1 SpH.d_step_right ps_step_right p_step_right := df_of x 10 (d := SpH.d_step_right) rfl (N := n_step_right) sc_step_right (b := b_step_right) ck_step_right d_step_right (l := []) (by kernel_rfl) f0
theorem k_step_right (x : Ctx w K mg base) : CallOk (mkG w K mg base) 1 e_step_right := c_pos x (o_step_right x) 6 (name := "_step_right") rfl rfl (fun fd F => F.bindsN (ps := ps_step_right) fun _ _ _ _ _ _ us hl => match us, hl with | [_, _, _, _, _, _], _ => rfl)
theorem o_joined (x : Ctx w K mg base) : Df (mkG w K mg base) 3 SpH.d_joined ps_joined p_joined := df_of x 9 (d := SpH.d_joined) rfl (N := n_joined) sc_joined (b := b_joined) ck_joined d_joined (l := [(none, e_Marks), (none, e_Marks)]) (by kernel_rfl) (f1 ((k_Marks x).mono (by decide : 2 ≤ 2)) (f1 ((k_Marks x).mono (by decide : 2 ≤ 2)) f0))
theorem k_joined (x : Ctx w K mg base) : CallOk (mkG w K mg base) 3 e_joined := c_pos x (o_joined x) 5 (name := "_joined") rfl rfl (fun fd F => F.bindsN (ps := ps_joined) fun _ _ _ _ _ _ us hl => match us, hl with | [_, _, _], _ => rfl)
theorem o_blames_right (x : Ctx w K mg base) : Df (mkG w K mg base) 4 SpH.d_blames_right ps_blames_right p_blames_right := df_of x 11 (d := SpH.d_blames_right) rfl (N := n_blames_right) sc_blames_right (b := b_blames_right) ck_blames_right d_blames_right (l := [(none, e_Marks), (none, e_step_right), (none, e_joined)]) (by kernel_rfl) (f1 ((k_Marks x).mono (by decide : 2 ≤ 3)) (f1 ((k_step_right x).mono (by decide : 1 ≤ 3)) (f1 ((k_joined x).mono (by decide : 3 ≤ 3)) f0)))
theorem k_blames_right (x : Ctx w K mg base) : CallOk (mkG w K mg base) 4 e_blames_right := c_kw x (o_blames_right x) 7 (name := "blames_right") rfl rfl (fun fd F => kb0 (ps := ps_blames_right) (n := 2) (ks := ["honest", "liars"]) F fun _ _ _ _ _ _ us ws h1 h2 => match us, ws, h1, h2 with | [_, _], [_, _], _, _ => rfl) (by decide)
theorem o_judge_paper (x : Ctx w K mg base) : Df (mkG w K mg base) 10 SpH.d_judge_paper ps_judge_paper p_judge_paper := df_of x 53 (d := SpH.d_judge_paper) rfl (N := n_judge_paper) sc_judge_paper (b := b_judge_paper) ck_judge_paper d_judge_paper (l := [(none, e_judge_known), (none, e_used_by), (none, e_blames_right)]) (by kernel_rfl) (f1 ((k_judge_known x).mono (by decide : 9 ≤ 9)) (f1 ((k_used_by x).mono (by decide : 8 ≤ 9)) (f1 ((k_blames_right x).mono (by decide : 4 ≤ 9)) f0)))
theorem k_judge_paper_h (x : Ctx w K mg base) : CallOk (mkG w K mg base) 10 e_judge_paper_h := c_kw x (o_judge_paper x) 46 (name := "judge_paper") rfl rfl (fun fd F => kb0 (ps := ps_judge_paper) (n := 5) (ks := ["honest"]) F fun _ _ _ _ _ _ us ws h1 h2 => match us, ws, h1, h2 with | [_, _, _, _, _], [_], _, _ => rfl) (by decide)
theorem k_judge_paper_0 (x : Ctx w K mg base) : CallOk (mkG w K mg base) 10 e_judge_paper_0 := by
  obtain ⟨fd, F, q⟩ := (o_judge_paper x).ex
  have hg : mg "judge_paper" = some (.ref (He.fAd K SpH.d_judge_paper.at_)) := He.glo_ok x.X x.N (x.t.d.fact 46 (f := .glo "judge_paper") rfl)
  obtain ⟨ds, hd, hb⟩ := FunD.binds0 (ps := ps_judge_paper) F 5 (by intro z; cases z) rfl (fun D doc pm an cdv ct us ks h1 h2 => match us, ks, h1, h2 with | [_, _, _, _, _], [_], _, _ => ⟨_, _, _, _, _, _, rfl, rfl, rfl⟩)
  exact call_pos (G := mkG w K mg base) (n := 5) (dfl := [dN []]) q hg F.kp hb hd (fun H => IsL.cons ⟨_, [], rfl, x.exs.hon H, IsL.nil⟩ IsL.nil)
theorem o_with_fewer (x : Ctx w K mg base) : Df (mkG w K mg base) 4 SpH.d_with_fewer ps_with_fewer p_with_fewer := df_of x 56 (d := SpH.d_with_fewer) rfl (N := n_with_fewer) sc_with_fewer (b := b_with_fewer) ck_with_fewer d_with_fewer (l := [(none, e_Question)]) (by kernel_rfl) (f1 ((k_Question x).mono (by decide : 3 ≤ 3)) f0)
theorem k_with_fewer (x : Ctx w K mg base) : CallOk (mkG w K mg base) 4 e_with_fewer := c_pos x (o_with_fewer x) 48 (name := "_with_fewer") rfl rfl (fun fd F => F.bindsN (ps := ps_with_fewer) fun _ _ _ _ _ _ us hl => match us, hl with | [_], _ => rfl)
theorem o_cannot_lie (x : Ctx w K mg base) : Df (mkG w K mg base) 11 SpH.d_cannot_lie ps_cannot_lie p_cannot_lie := df_of x 57 (d := SpH.d_cannot_lie) rfl (N := n_cannot_lie) sc_cannot_lie (b := b_cannot_lie) ck_cannot_lie d_cannot_lie (l := [(none, e_judge_paper_0), (none, e_with_fewer)]) (by kernel_rfl) (f1 ((k_judge_paper_0 x).mono (by decide : 10 ≤ 10)) (f1 ((k_with_fewer x).mono (by decide : 4 ≤ 10)) f0))
theorem k_cannot_lie (x : Ctx w K mg base) : CallOk (mkG w K mg base) 11 e_cannot_lie := c_pos x (o_cannot_lie x) 49 (name := "cannot_lie") rfl rfl (fun fd F => F.bindsN (ps := ps_cannot_lie) fun _ _ _ _ _ _ us hl => match us, hl with | [_, _, _, _, _], _ => rfl)
theorem o_judge_witness (x : Ctx w K mg base) : Df (mkG w K mg base) 0 SpH.d_judge_witness ["setting", "question", "readings", "witness", "box"] (fun _ _ _ => False) := df_no x 54 (d := SpH.d_judge_witness) rfl
theorem k_judge_witness (x : Ctx w K mg base) : CallOk (mkG w K mg base) 0 e_judge_witness := c_pos x (o_judge_witness x) 47 (name := "judge_witness") rfl rfl (fun fd F => F.bindsN (ps := ["setting", "question", "readings", "witness", "box"]) fun _ _ _ _ _ _ us hl => match us, hl with | [_, _, _, _, _], _ => rfl)
theorem o_shown_in (x : Ctx w K mg base) : Df (mkG w K mg base) 1 SpH.d_shown_in ps_shown_in p_shown_in := df_of x 58 (d := SpH.d_shown_in) rfl (N := n_shown_in) sc_shown_in (b := b_shown_in) ck_shown_in d_shown_in (l := [(none, e_judge_witness)]) (by kernel_rfl) (f1 ((k_judge_witness x).mono (by decide : 0 ≤ 0)) f0)
theorem k_shown_in (x : Ctx w K mg base) : CallOk (mkG w K mg base) 1 e_shown_in := c_pos x (o_shown_in x) 50 (name := "shown_in") rfl rfl (fun fd F => F.bindsN (ps := ps_shown_in) fun _ _ _ _ _ _ us hl => match us, hl with | [_, _, _, _], _ => rfl)
theorem o_Standing_init (x : Ctx w K mg base) : Df (mkG w K mg base) 1 SpH.d_Standing_init ps_Standing_init i_Standing := df_of x 55 (d := SpH.d_Standing_init) rfl (N := n_Standing_init) sc_Standing_init (b := b_Standing_init) ck_Standing_init d_Standing_init (l := []) (by kernel_rfl) f0
theorem k_Standing (x : Ctx w K mg base) : CallOk (mkG w K mg base) 2 e_Standing := (c_mkp (n := 4) x 7 (by decide) (o_Standing_init x) rfl (fun fd F => F.bindsN (ps := ps_Standing_init) fun _ _ _ _ _ _ us hl => match us, hl with | [_, _, _, _, _], _ => rfl) mk_ok)
theorem o_standing (x : Ctx w K mg base) : Df (mkG w K mg base) 12 SpH.d_standing ps_standing p_standing := df_of x 59 (d := SpH.d_standing) rfl (N := n_standing) sc_standing (b := b_standing) ck_standing d_standing (l := [(none, e_judge_paper_h), (none, e_cannot_lie), (none, e_shown_in), (none, e_shown_in), (none, e_Standing)]) (by kernel_rfl) (f1 ((k_judge_paper_h x).mono (by decide : 10 ≤ 11)) (f1 ((k_cannot_lie x).mono (by decide : 11 ≤ 11)) (f1 ((k_shown_in x).mono (by decide : 1 ≤ 11)) (f1 ((k_shown_in x).mono (by decide : 1 ≤ 11)) (f1 ((k_Standing x).mono (by decide : 2 ≤ 11)) f0)))))
theorem k_standing (x : Ctx w K mg base) : CallOk (mkG w K mg base) 12 e_standing := by
  obtain ⟨fd, F, q⟩ := (o_standing x).ex
  have hg : mg "standing" = some (.ref (He.fAd K SpH.d_standing.at_)) := He.glo_ok x.X x.N (x.t.d.fact 51 (f := .glo "standing") rfl)
  obtain ⟨mv, hb⟩ := FunD.kbinds0 (ps := ps_standing) F 4 ["must", "cannot"] [("lies", .non), ("tells", .non)] (fun us mv ws => us ++ ws ++ mv) (List.cons_ne_nil _ _) (fun z hz => by
    rcases List.mem_cons.mp hz with e | hz
    · rw [e]; exact .tail _ (.tail _ (.head _))
    · rcases List.mem_cons.mp hz with e | hz
      · rw [e]; exact .tail _ (.tail _ (.tail _ (.head _)))
      · cases hz) (fun a b c => (a.append c).append b) (fun D doc pm an cdv ct us mv ws h1 h2 h3 => match us, mv, ws, h1, h2, h3 with | [_, _, _, _], [_, _], [_, _], _, _, _ => ⟨_, _, _, _, _, _, rfl, rfl, _, _, _, _, _, _, rfl, rfl, rfl⟩)
  exact call_kw (G := mkG w K mg base) (dfl := [.non, .non]) (dV := [.non, .non]) q hg F.kp hb (fun H => IsL.cons rfl (IsL.cons rfl IsL.nil)) (by decide)
theorem o_law (x : Ctx w K mg base) : Df (mkG w K mg base) 13 SpH.d_law ps_law p_law := df_of x 95 (d := SpH.d_law) rfl (N := n_law) sc_law (b := b_law) ck_law d_law (l := [(none, e_law_case), (none, e_law_rows), (none, e_Question), (none, e_law_made), (none, e_law_made), (none, e_standing)]) (by kernel_rfl) (f1 ((k_law_case x).mono (by decide : 7 ≤ 12)) (f1 ((k_law_rows x).mono (by decide : 1 ≤ 12)) (f1 ((k_Question x).mono (by decide : 3 ≤ 12)) (f1 ((k_law_made x).mono (by decide : 11 ≤ 12)) (f1 ((k_law_made x).mono (by decide : 11 ≤ 12)) (f1 ((k_standing x).mono (by decide : 12 ≤ 12)) f0))))))
end
end Sp
end
section
set_option Elab.async false
set_option linter.all false
set_option maxRecDepth 100000
set_option maxHeartbeats 2000000
/-! The end: the law's promise, the head. -/
namespace Sp
open PySem PySem.Spec PyProof.Rows L2
def spLaw (K : PySem.W.Frag) : L2.Sp := fun vs H Q _ => ∃ (a : Addr) (ns : List Int), vs = [.ref a] ∧ SqL K H a (ns.map V.int) ∧ ns.length ≤ 100000 ∧ ∀ H', Q (.bl true) H'
section
variable {w : World} {K : PySem.W.Frag} {mg : Str → Option Value} {base : Heap}
theorem law_ok (x : Ctx w K mg base) : ∃ fd, FDo K SpH.d_law fd ∧ FnOk PySem.Challenge.rw_sureplace_k78_whole_who_is_shown_to_lie.prog w K mg base CX0 13 (He.fAd K SpH.d_law.at_) fd ps_law (spLaw K) := by
  obtain ⟨fd, F, q⟩ := (o_law x).ex
  refine ⟨fd, F, FnOk.imp q fun vs H Q E ⟨a, ns, e, hS, hl, hQ⟩ => ?_⟩
  subst e
  have ec : cut (fun _ => none) H = H := by
    funext b
    rfl
  exact ⟨[.scr ns], fun _ => none, fun d _ => d = .bl true, (fun b d h => nomatch h), IsL.cons ⟨a, rfl, by rw [ec]; exact hS⟩ IsL.nil, ⟨ns, rfl, hl, rfl⟩, fun d M' v H' p r m i => by
    subst p
    rw [show v = .bl true from i]
    exact hQ H'⟩
theorem facts {h : Heap} {f : Addr} (X : K.In h) (G : h.Ns mainGlobals mg) (hfa : mg ("law" : Str) = some (.ref f)) (c : SpH.obsK K = SpH.valM w) :
    ∃ fd : FuncData, (∀ (s : Shared) (v : Value), BindsTo s fd ⟨[v], []⟩ [("_law_script", v)]) ∧ ∀ base : Heap, K.In base → base.Ns mainGlobals mg → FnOk PySem.Challenge.rw_sureplace_k78_whole_who_is_shown_to_lie.prog w K mg base CX0 13 f fd ["_law_script"] (spLaw K) := by
  have x : Ctx w K mg h := ⟨X, G, c⟩
  obtain ⟨fd, F, _⟩ := law_ok x
  have e2 : mg ("law" : Str) = some (.ref (He.fAd K SpH.d_law.at_)) := He.glo_ok X G (x.t.d.fact 79 (f := .glo "law") rfl)
  have e : f = He.fAd K SpH.d_law.at_ := by
    have e3 := hfa.symm.trans e2
    injection e3 with e3
    injection e3
  subst e
  refine ⟨fd, fun s v => FunD.bindsA (ps := ["_law_script"]) F (fun _ _ _ _ _ _ us hl => match us, hl with | [_], _ => rfl) s [v] rfl, fun base h1 h2 => ?_⟩
  obtain ⟨fd', F', q⟩ := law_ok (⟨h1, h2, c⟩ : Ctx w K mg base)
  rw [fd_one F F']
  exact q
end
end Sp
end
open PySem PySem.W PySem.Calls PyProof.Rows
set_option maxRecDepth 100000 in
set_option maxHeartbeats 0 in
theorem PySem.Challenge.cw_sureplace_k78_whole_who_is_shown_to_lie_holds : PySem.Challenge.rw_sureplace_k78_whole_who_is_shown_to_lie.Holds := by
  w_on; o_law
  refine HandSHeadRun.head_imp (r := OpenLaw.row PySem.Challenge.rw_sureplace_k78_whole_who_is_shown_to_lie) (q := SpH.q) (H := SpH.hk) (ob := SpH.ob) (M := 20000) (loose := SpH.loose) (d := HandSHeadRun.topDef (OpenLaw.row PySem.Challenge.rw_sureplace_k78_whole_who_is_shown_to_lie).prog 140) (kwd := []) SpH.ob_eq
    SpH.run (by kernel_rfl) (by kernel_rfl) (by kernel_rfl) (by rfl) (by first | assumption | decide +kernel) (by decide +kernel) ⟨rfl, rfl, rfl, rfl, rfl, by decide +kernel⟩ ?hw ?hc
  case hw => w_witness2
  case hc =>
    refine L2.walk_ofE (l := PySem.Challenge.rw_sureplace_k78_whole_who_is_shown_to_lie) (n := 63) (k := 13) (x := "_law_script") (CX := L2.CX0) rfl (by decide) (by kernel_rfl) ⟨rfl, by decide, by decide⟩ ?F (fun _ _ _ _ z => z)
    intro w mg fa h Y G hmg0
    obtain ⟨K, KX, c⟩ := Y
    have hmg : mg ("law" : PySem.Str) = some (.ref fa) := by
      have e : (HandSHeadRun.topDef (OpenLaw.row PySem.Challenge.rw_sureplace_k78_whole_who_is_shown_to_lie).prog 140).name = ("law" : PySem.Str) := by kernel_rfl
      rw [← e]
      exact hmg0
    obtain ⟨fd, hb, hF⟩ := Sp.facts (w := w) KX G hmg c
    exact ⟨K, fd, Sp.spLaw K, KX, hb, fun H a ns hl _ hS => ⟨a, ns, rfl, hS, Nat.le_trans hl (by decide), fun _ => rfl⟩, hF⟩
