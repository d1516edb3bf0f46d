import PyProof.Rows.All
import Wide.All
import OpenK.AllK
import Wide.FinOn
import HandS.Base
import HandS.Call
import HandS.Ends
import HandS.Words
import HandS.Defaults
import HandS.Head0
import HandS.Head1
import HandS.Head2
import HandS.HeadEnd
import HandS.HeadHook1
import HandS.HeadHook2
import HandS.ForExc
import HandS.ExcInit
import HandS.TupSets
import KE.SortData
import HandS.ForMost
import HandS.TupAny
import HandS.IsInst
import HandS.Wide
import HandS.WideBits
import HandS.Steps
import HandS.TupLe
import HandS.TryMany
import PySem.Challenge.RW_edgemoss_k91_whole_taken_back
set_option Elab.async false
set_option linter.all false
/-! ==== HeadA -/
set_option maxRecDepth 100000
set_option maxHeartbeats 0
namespace K91
open PySem PySem.Spec PyProof.Rows L2
def top (i : Nat) : Stmt := PySem.Challenge.pw_edgemoss_k91_whole_taken_back.main.body.getD i (.Pass ⟨0, 0, 0, 0⟩)

abbrev s_NoText_init : Stmt := inClass (top 8) 0
abbrev s_is_number : Stmt := top 13
abbrev s_is_cell : Stmt := top 14
abbrev s_rising : Stmt := top 15
abbrev s_has : Stmt := top 16
abbrev s_only_in : Stmt := top 17
abbrev s_outside : Stmt := top 18
abbrev s_both : Stmt := top 19
abbrev s_either : Stmt := top 20
abbrev s_moved_cell : Stmt := top 21
abbrev s_less_cell : Stmt := top 22
abbrev s_moved : Stmt := top 23
abbrev s_counted : Stmt := top 24
abbrev s_look_at_turn : Stmt := top 28
abbrev s_turned_cell : Stmt := top 29
abbrev s_turned : Stmt := top 30
abbrev s_mirrored : Stmt := top 34
abbrev s_lies_on : Stmt := top 35
abbrev s_whole_at : Stmt := top 36
abbrev s_clear_at : Stmt := top 37
abbrev s_reached : Stmt := top 39
abbrev s_kept_at : Stmt := top 40
abbrev s_grown : Stmt := top 41
abbrev s_eaten : Stmt := top 42
abbrev s_Plan_made : Stmt := inClass (top 50) 0
abbrev s_Plan_done : Stmt := inClass (top 50) 1
abbrev s_Plan_parts_in : Stmt := inClass (top 50) 5
abbrev s_Keep_about : Stmt := inClass (top 51) 0
abbrev s_Nothing_made : Stmt := inClass (top 52) 0
abbrev s_Everything_made : Stmt := inClass (top 53) 0
abbrev s_Move_init : Stmt := inClass (top 54) 0
abbrev s_Move_made : Stmt := inClass (top 54) 1
abbrev s_Eat_init : Stmt := inClass (top 55) 0
abbrev s_Eat_made : Stmt := inClass (top 55) 1
abbrev s_Grow_init : Stmt := inClass (top 56) 0
abbrev s_Grow_made : Stmt := inClass (top 56) 1
abbrev s_Both_init : Stmt := inClass (top 57) 0
abbrev s_Both_made : Stmt := inClass (top 57) 1
abbrev s_Either_init : Stmt := inClass (top 58) 0
abbrev s_Either_made : Stmt := inClass (top 58) 1
abbrev s_of_plain : Stmt := top 71
abbrev s_least_pieces : Stmt := top 72
abbrev s_bars : Stmt := top 73
abbrev s_answer : Stmt := top 75
abbrev s_look_finite : Stmt := top 84
abbrev s_drawn : Stmt := top 94
abbrev s_number_of : Stmt := top 99
abbrev s_Reading_init : Stmt := inClass (top 100) 0
abbrev s_Reading_next_word : Stmt := inClass (top 100) 1
abbrev s_Reading_next_number : Stmt := inClass (top 100) 2
abbrev s_Reading_next_step : Stmt := inClass (top 100) 3
abbrev s_Reading_next_piece : Stmt := inClass (top 100) 4
abbrev s_Reading_next_plan : Stmt := inClass (top 100) 5
abbrev s_Reading_greater : Stmt := inClass (top 100) 6
abbrev s_plan_from : Stmt := top 101
abbrev s_plain_number : Stmt := top 108
abbrev s_number_at : Stmt := top 109
abbrev s_cell_at : Stmt := top 110
abbrev s_ended : Stmt := top 111
abbrev s_shown : Stmt := top 112
abbrev s_of_plans : Stmt := top 113
abbrev s_read_row : Stmt := top 114
abbrev s_thinned : Stmt := top 123
abbrev s_left_by : Stmt := top 124
abbrev s_changed : Stmt := top 127
abbrev s_let_by : Stmt := top 128
abbrev s_told_steps : Stmt := top 129
abbrev s_told_count : Stmt := top 131
abbrev s_answered : Stmt := top 132
abbrev s_Desk_init : Stmt := inClass (top 133) 0
abbrev s_Desk_shape : Stmt := inClass (top 133) 1
abbrev s_Desk_taken_back : Stmt := inClass (top 133) 2
abbrev s_Desk_say : Stmt := inClass (top 133) 3
abbrev s_law_deal : Stmt := top 135
abbrev s_law_piece : Stmt := top 136
abbrev s_law_tree : Stmt := top 137
abbrev s_law_words : Stmt := top 138
abbrev s_law_near : Stmt := top 139
abbrev s_law_turned : Stmt := top 140
abbrev s_law_swelled : Stmt := top 141
abbrev s_law_shrunk : Stmt := top 142
abbrev s_law_met : Stmt := top 143
abbrev s_law_made : Stmt := top 144
abbrev s_law_deed : Stmt := top 145
abbrev s_law_said : Stmt := top 146
abbrev s_law_due : Stmt := top 147
abbrev s_law_refused : Stmt := top 148
abbrev s_law_gone_on : Stmt := top 149
abbrev s_law_stands : Stmt := top 150
abbrev s_law_back : Stmt := top 151
abbrev s_law : Stmt := top 152
def d_NoText_init : He.DefD := ⟨("NoText", some "__init__"), "__init__", "NoText.__init__", defArgs s_NoText_init, defBody s_NoText_init, defScope s_NoText_init, [], []⟩
def d_is_number : He.DefD := ⟨("is_number", none), "is_number", "is_number", defArgs s_is_number, defBody s_is_number, defScope s_is_number, [], []⟩
def d_is_cell : He.DefD := ⟨("is_cell", none), "is_cell", "is_cell", defArgs s_is_cell, defBody s_is_cell, defScope s_is_cell, [], []⟩
def d_rising : He.DefD := ⟨("rising", none), "rising", "rising", defArgs s_rising, defBody s_rising, defScope s_rising, [], []⟩
def d_has : He.DefD := ⟨("has", none), "has", "has", defArgs s_has, defBody s_has, defScope s_has, [], []⟩
def d_only_in : He.DefD := ⟨("only_in", none), "only_in", "only_in", defArgs s_only_in, defBody s_only_in, defScope s_only_in, [], []⟩
def d_outside : He.DefD := ⟨("outside", none), "outside", "outside", defArgs s_outside, defBody s_outside, defScope s_outside, [], []⟩
def d_both : He.DefD := ⟨("both", none), "both", "both", defArgs s_both, defBody s_both, defScope s_both, [], []⟩
def d_either : He.DefD := ⟨("either", none), "either", "either", defArgs s_either, defBody s_either, defScope s_either, [], []⟩
def d_moved_cell : He.DefD := ⟨("moved_cell", none), "moved_cell", "moved_cell", defArgs s_moved_cell, defBody s_moved_cell, defScope s_moved_cell, [], []⟩
def d_less_cell : He.DefD := ⟨("less_cell", none), "less_cell", "less_cell", defArgs s_less_cell, defBody s_less_cell, defScope s_less_cell, [], []⟩
def d_moved : He.DefD := ⟨("moved", none), "moved", "moved", defArgs s_moved, defBody s_moved, defScope s_moved, [], []⟩
def d_counted : He.DefD := ⟨("counted", none), "counted", "counted", defArgs s_counted, defBody s_counted, defScope s_counted, [], []⟩
def d_look_at_turn : He.DefD := ⟨("look_at_turn", none), "look_at_turn", "look_at_turn", defArgs s_look_at_turn, defBody s_look_at_turn, defScope s_look_at_turn, [], []⟩
def d_turned_cell : He.DefD := ⟨("turned_cell", none), "turned_cell", "turned_cell", defArgs s_turned_cell, defBody s_turned_cell, defScope s_turned_cell, [], []⟩
def d_turned : He.DefD := ⟨("turned", none), "turned", "turned", defArgs s_turned, defBody s_turned, defScope s_turned, [], []⟩
def d_mirrored : He.DefD := ⟨("mirrored", none), "mirrored", "mirrored", defArgs s_mirrored, defBody s_mirrored, defScope s_mirrored, [], []⟩
def d_lies_on : He.DefD := ⟨("lies_on", none), "lies_on", "lies_on", defArgs s_lies_on, defBody s_lies_on, defScope s_lies_on, [], []⟩
def d_whole_at : He.DefD := ⟨("whole_at", none), "whole_at", "whole_at", defArgs s_whole_at, defBody s_whole_at, defScope s_whole_at, [], []⟩
def d_clear_at : He.DefD := ⟨("clear_at", none), "clear_at", "clear_at", defArgs s_clear_at, defBody s_clear_at, defScope s_clear_at, [], []⟩
def d_reached : He.DefD := ⟨("reached", none), "reached", "reached", defArgs s_reached, defBody s_reached, defScope s_reached, [], []⟩
def d_kept_at : He.DefD := ⟨("kept_at", none), "kept_at", "kept_at", defArgs s_kept_at, defBody s_kept_at, defScope s_kept_at, [], []⟩
def d_grown : He.DefD := ⟨("grown", none), "grown", "grown", defArgs s_grown, defBody s_grown, defScope s_grown, [], []⟩
def d_eaten : He.DefD := ⟨("eaten", none), "eaten", "eaten", defArgs s_eaten, defBody s_eaten, defScope s_eaten, [], []⟩
def d_Plan_made : He.DefD := ⟨("Plan", some "made"), "made", "Plan.made", defArgs s_Plan_made, defBody s_Plan_made, defScope s_Plan_made, [], []⟩
def d_Plan_done : He.DefD := ⟨("Plan", some "done"), "done", "Plan.done", defArgs s_Plan_done, defBody s_Plan_done, defScope s_Plan_done, [], []⟩
def d_Plan_parts_in : He.DefD := ⟨("Plan", some "parts_in"), "parts_in", "Plan.parts_in", defArgs s_Plan_parts_in, defBody s_Plan_parts_in, defScope s_Plan_parts_in, [], []⟩
def d_Keep_about : He.DefD := ⟨("Keep", some "about"), "about", "Keep.about", defArgs s_Keep_about, defBody s_Keep_about, defScope s_Keep_about, [], []⟩
def d_Nothing_made : He.DefD := ⟨("Nothing", some "made"), "made", "Nothing.made", defArgs s_Nothing_made, defBody s_Nothing_made, defScope s_Nothing_made, [], []⟩
def d_Everything_made : He.DefD := ⟨("Everything", some "made"), "made", "Everything.made", defArgs s_Everything_made, defBody s_Everything_made, defScope s_Everything_made, [], []⟩
def d_Move_init : He.DefD := ⟨("Move", some "__init__"), "__init__", "Move.__init__", defArgs s_Move_init, defBody s_Move_init, defScope s_Move_init, [], []⟩
def d_Move_made : He.DefD := ⟨("Move", some "made"), "made", "Move.made", defArgs s_Move_made, defBody s_Move_made, defScope s_Move_made, [], []⟩
def d_Eat_init : He.DefD := ⟨("Eat", some "__init__"), "__init__", "Eat.__init__", defArgs s_Eat_init, defBody s_Eat_init, defScope s_Eat_init, [], []⟩
def d_Eat_made : He.DefD := ⟨("Eat", some "made"), "made", "Eat.made", defArgs s_Eat_made, defBody s_Eat_made, defScope s_Eat_made, [], []⟩
def d_Grow_init : He.DefD := ⟨("Grow", some "__init__"), "__init__", "Grow.__init__", defArgs s_Grow_init, defBody s_Grow_init, defScope s_Grow_init, [], []⟩
def d_Grow_made : He.DefD := ⟨("Grow", some "made"), "made", "Grow.made", defArgs s_Grow_made, defBody s_Grow_made, defScope s_Grow_made, [], []⟩
def d_Both_init : He.DefD := ⟨("Both", some "__init__"), "__init__", "Both.__init__", defArgs s_Both_init, defBody s_Both_init, defScope s_Both_init, [], []⟩
def d_Both_made : He.DefD := ⟨("Both", some "made"), "made", "Both.made", defArgs s_Both_made, defBody s_Both_made, defScope s_Both_made, [], []⟩
def d_Either_init : He.DefD := ⟨("Either", some "__init__"), "__init__", "Either.__init__", defArgs s_Either_init, defBody s_Either_init, defScope s_Either_init, [], []⟩
def d_Either_made : He.DefD := ⟨("Either", some "made"), "made", "Either.made", defArgs s_Either_made, defBody s_Either_made, defScope s_Either_made, [], []⟩
def d_of_plain : He.DefD := ⟨("of_plain", none), "of_plain", "of_plain", defArgs s_of_plain, defBody s_of_plain, defScope s_of_plain, [], []⟩
def d_least_pieces : He.DefD := ⟨("least_pieces", none), "least_pieces", "least_pieces", defArgs s_least_pieces, defBody s_least_pieces, defScope s_least_pieces, [], []⟩
def d_bars : He.DefD := ⟨("bars", none), "bars", "bars", defArgs s_bars, defBody s_bars, defScope s_bars, [], []⟩
def d_answer : He.DefD := ⟨("answer", none), "answer", "answer", defArgs s_answer, defBody s_answer, defScope s_answer, [], []⟩
def d_look_finite : He.DefD := ⟨("look_finite", none), "look_finite", "look_finite", defArgs s_look_finite, defBody s_look_finite, defScope s_look_finite, [], []⟩
def d_drawn : He.DefD := ⟨("drawn", none), "drawn", "drawn", defArgs s_drawn, defBody s_drawn, defScope s_drawn, [], []⟩
def d_number_of : He.DefD := ⟨("number_of", none), "number_of", "number_of", defArgs s_number_of, defBody s_number_of, defScope s_number_of, [], []⟩
def d_Reading_init : He.DefD := ⟨("Reading", some "__init__"), "__init__", "Reading.__init__", defArgs s_Reading_init, defBody s_Reading_init, defScope s_Reading_init, [], []⟩
def d_Reading_next_word : He.DefD := ⟨("Reading", some "next_word"), "next_word", "Reading.next_word", defArgs s_Reading_next_word, defBody s_Reading_next_word, defScope s_Reading_next_word, [], []⟩
def d_Reading_next_number : He.DefD := ⟨("Reading", some "next_number"), "next_number", "Reading.next_number", defArgs s_Reading_next_number, defBody s_Reading_next_number, defScope s_Reading_next_number, [], []⟩
def d_Reading_next_step : He.DefD := ⟨("Reading", some "next_step"), "next_step", "Reading.next_step", defArgs s_Reading_next_step, defBody s_Reading_next_step, defScope s_Reading_next_step, [], []⟩
def d_Reading_next_piece : He.DefD := ⟨("Reading", some "next_piece"), "next_piece", "Reading.next_piece", defArgs s_Reading_next_piece, defBody s_Reading_next_piece, defScope s_Reading_next_piece, [], []⟩
def d_Reading_next_plan : He.DefD := ⟨("Reading", some "next_plan"), "next_plan", "Reading.next_plan", defArgs s_Reading_next_plan, defBody s_Reading_next_plan, defScope s_Reading_next_plan, [], []⟩
def d_Reading_greater : He.DefD := ⟨("Reading", some "greater"), "greater", "Reading.greater", defArgs s_Reading_greater, defBody s_Reading_greater, defScope s_Reading_greater, [], []⟩
def d_plan_from : He.DefD := ⟨("plan_from", none), "plan_from", "plan_from", defArgs s_plan_from, defBody s_plan_from, defScope s_plan_from, [], []⟩
def d_plain_number : He.DefD := ⟨("plain_number", none), "plain_number", "plain_number", defArgs s_plain_number, defBody s_plain_number, defScope s_plain_number, [], []⟩
def d_number_at : He.DefD := ⟨("number_at", none), "number_at", "number_at", defArgs s_number_at, defBody s_number_at, defScope s_number_at, [], []⟩
def d_cell_at : He.DefD := ⟨("cell_at", none), "cell_at", "cell_at", defArgs s_cell_at, defBody s_cell_at, defScope s_cell_at, [], []⟩
def d_ended : He.DefD := ⟨("ended", none), "ended", "ended", defArgs s_ended, defBody s_ended, defScope s_ended, [], []⟩
def d_shown : He.DefD := ⟨("shown", none), "shown", "shown", defArgs s_shown, defBody s_shown, defScope s_shown, [], []⟩
def d_of_plans : He.DefD := ⟨("of_plans", none), "of_plans", "of_plans", defArgs s_of_plans, defBody s_of_plans, defScope s_of_plans, [], []⟩
def d_read_row : He.DefD := ⟨("read_row", none), "read_row", "read_row", defArgs s_read_row, defBody s_read_row, defScope s_read_row, [], []⟩
def d_thinned : He.DefD := ⟨("thinned", none), "thinned", "thinned", defArgs s_thinned, defBody s_thinned, defScope s_thinned, [], []⟩
def d_left_by : He.DefD := ⟨("left_by", none), "left_by", "left_by", defArgs s_left_by, defBody s_left_by, defScope s_left_by, [], []⟩
def d_changed : He.DefD := ⟨("changed", none), "changed", "changed", defArgs s_changed, defBody s_changed, defScope s_changed, [], []⟩
def d_let_by : He.DefD := ⟨("let_by", none), "let_by", "let_by", defArgs s_let_by, defBody s_let_by, defScope s_let_by, [], []⟩
def d_told_steps : He.DefD := ⟨("told_steps", none), "told_steps", "told_steps", defArgs s_told_steps, defBody s_told_steps, defScope s_told_steps, [], []⟩
def d_told_count : He.DefD := ⟨("told_count", none), "told_count", "told_count", defArgs s_told_count, defBody s_told_count, defScope s_told_count, [], []⟩
def d_answered : He.DefD := ⟨("answered", none), "answered", "answered", defArgs s_answered, defBody s_answered, defScope s_answered, [], []⟩
def d_Desk_init : He.DefD := ⟨("Desk", some "__init__"), "__init__", "Desk.__init__", defArgs s_Desk_init, defBody s_Desk_init, defScope s_Desk_init, [], []⟩
def d_Desk_shape : He.DefD := ⟨("Desk", some "shape"), "shape", "Desk.shape", defArgs s_Desk_shape, defBody s_Desk_shape, defScope s_Desk_shape, [], []⟩
def d_Desk_taken_back : He.DefD := ⟨("Desk", some "taken_back"), "taken_back", "Desk.taken_back", defArgs s_Desk_taken_back, defBody s_Desk_taken_back, defScope s_Desk_taken_back, [], []⟩
def d_Desk_say : He.DefD := ⟨("Desk", some "say"), "say", "Desk.say", defArgs s_Desk_say, defBody s_Desk_say, defScope s_Desk_say, [], []⟩
def d_law_deal : He.DefD := ⟨("_law_deal", none), "_law_deal", "_law_deal", defArgs s_law_deal, defBody s_law_deal, defScope s_law_deal, [], []⟩
def d_law_piece : He.DefD := ⟨("_law_piece", none), "_law_piece", "_law_piece", defArgs s_law_piece, defBody s_law_piece, defScope s_law_piece, [], []⟩
def d_law_tree : He.DefD := ⟨("_law_tree", none), "_law_tree", "_law_tree", defArgs s_law_tree, defBody s_law_tree, defScope s_law_tree, [], []⟩
def d_law_words : He.DefD := ⟨("_law_words", none), "_law_words", "_law_words", defArgs s_law_words, defBody s_law_words, defScope s_law_words, [], []⟩
def d_law_near : He.DefD := ⟨("_law_near", none), "_law_near", "_law_near", defArgs s_law_near, defBody s_law_near, defScope s_law_near, [], []⟩
def d_law_turned : He.DefD := ⟨("_law_turned", none), "_law_turned", "_law_turned", defArgs s_law_turned, defBody s_law_turned, defScope s_law_turned, [], []⟩
def d_law_swelled : He.DefD := ⟨("_law_swelled", none), "_law_swelled", "_law_swelled", defArgs s_law_swelled, defBody s_law_swelled, defScope s_law_swelled, [], []⟩
def d_law_shrunk : He.DefD := ⟨("_law_shrunk", none), "_law_shrunk", "_law_shrunk", defArgs s_law_shrunk, defBody s_law_shrunk, defScope s_law_shrunk, [], []⟩
def d_law_met : He.DefD := ⟨("_law_met", none), "_law_met", "_law_met", defArgs s_law_met, defBody s_law_met, defScope s_law_met, [], []⟩
def d_law_made : He.DefD := ⟨("_law_made", none), "_law_made", "_law_made", defArgs s_law_made, defBody s_law_made, defScope s_law_made, [], []⟩
def d_law_deed : He.DefD := ⟨("_law_deed", none), "_law_deed", "_law_deed", defArgs s_law_deed, defBody s_law_deed, defScope s_law_deed, [], []⟩
def d_law_said : He.DefD := ⟨("_law_said", none), "_law_said", "_law_said", defArgs s_law_said, defBody s_law_said, defScope s_law_said, [], []⟩
def d_law_due : He.DefD := ⟨("_law_due", none), "_law_due", "_law_due", defArgs s_law_due, defBody s_law_due, defScope s_law_due, [], []⟩
def d_law_refused : He.DefD := ⟨("_law_refused", none), "_law_refused", "_law_refused", defArgs s_law_refused, defBody s_law_refused, defScope s_law_refused, [], []⟩
def d_law_gone_on : He.DefD := ⟨("_law_gone_on", none), "_law_gone_on", "_law_gone_on", defArgs s_law_gone_on, defBody s_law_gone_on, defScope s_law_gone_on, [], []⟩
def d_law_stands : He.DefD := ⟨("_law_stands", none), "_law_stands", "_law_stands", defArgs s_law_stands, defBody s_law_stands, defScope s_law_stands, [], []⟩
def d_law_back : He.DefD := ⟨("_law_back", none), "_law_back", "_law_back", defArgs s_law_back, defBody s_law_back, defScope s_law_back, [], []⟩
def d_law : He.DefD := ⟨("law", none), "law", "law", defArgs s_law, defBody s_law, defScope s_law, [], []⟩
def fn0 : List He.DefD := [d_NoText_init, d_is_number, d_is_cell, d_rising, d_has, d_only_in, d_outside, d_both, d_either, d_moved_cell, d_less_cell, d_moved, d_counted, d_look_at_turn, d_turned_cell, d_turned, d_mirrored, d_lies_on, d_whole_at, d_clear_at, d_reached, d_kept_at, d_grown, d_eaten, d_Plan_made, d_Plan_done, d_Plan_parts_in, d_Keep_about, d_Nothing_made, d_Everything_made, d_Move_init, d_Move_made, d_Eat_init, d_Eat_made, d_Grow_init, d_Grow_made, d_Both_init, d_Both_made, d_Either_init, d_Either_made, d_of_plain, d_least_pieces, d_bars, d_answer, d_look_finite, d_drawn, d_number_of, d_Reading_init, d_Reading_next_word, d_Reading_next_number, d_Reading_next_step, d_Reading_next_piece, d_Reading_next_plan, d_Reading_greater, d_plan_from, d_plain_number, d_number_at, d_cell_at, d_ended, d_shown, d_of_plans, d_read_row, d_thinned, d_left_by, d_changed, d_let_by, d_told_steps, d_told_count, d_answered, d_Desk_init, d_Desk_shape, d_Desk_taken_back, d_Desk_say, d_law_deal, d_law_piece, d_law_tree, d_law_words, d_law_near, d_law_turned, d_law_swelled, d_law_shrunk, d_law_met, d_law_made, d_law_deed, d_law_said, d_law_due, d_law_refused, d_law_gone_on, d_law_stands, d_law_back, d_law]
def fa0 : List He.Fa := [.glo "is_number", .glo "is_cell", .glo "rising", .glo "has", .glo "only_in", .glo "outside", .glo "both", .glo "either", .glo "moved_cell", .glo "less_cell", .glo "moved", .glo "counted", .glo "look_at_turn", .glo "turned_cell", .glo "turned", .glo "mirrored", .glo "lies_on", .glo "whole_at", .glo "clear_at", .glo "reached", .glo "kept_at", .glo "grown", .glo "eaten", .glo "of_plain", .glo "least_pieces", .glo "bars", .glo "answer", .glo "look_finite", .glo "drawn", .glo "number_of", .glo "plan_from", .glo "plain_number", .glo "number_at", .glo "cell_at", .glo "ended", .glo "shown", .glo "of_plans", .glo "read_row", .glo "thinned", .glo "left_by", .glo "changed", .glo "let_by", .glo "told_steps", .glo "told_count", .glo "answered", .glo "_law_deal", .glo "_law_piece", .glo "_law_tree", .glo "_law_words", .glo "_law_near", .glo "_law_turned", .glo "_law_swelled", .glo "_law_shrunk", .glo "_law_met", .glo "_law_made", .glo "_law_deed", .glo "_law_said", .glo "_law_due", .glo "_law_refused", .glo "_law_gone_on", .glo "_law_stands", .glo "_law_back", .glo "law", .free "len", .free "isinstance", .free "set", .free "sorted", .free "tuple", .free "list", .free "all", .free "any", .free "range", .free "min", .free "divmod", .free "str", .free "int", .free "bool", .free "ValueError", .int "FAR" 1000000000000, .int "MOST_CELLS" 400, .int "ALL_TURNS" 8, .int "QUARTERS" 4, .int "MOST_STEPS_pieces" 12, .int "FARTHEST" 1000000, .int "MOST_MADE" 2000, .int "MOST_PLANS" 40, .int "DEEPEST" 12, .int "MOST_FIGURES_reading" 7, .int "MOST_FIGURES_rows" 13, .int "MOST_LINES" 40, .str "THERE" "#", .str "LACKING" ".", .str "FIGURES_reading" "0123456789", .str "FIGURES_rows" "0123456789", .glo "Keep", .cls "Keep", .glo "Nothing", .cls "Nothing", .glo "Everything", .cls "Everything", .glo "Move", .cls "Move", .glo "Eat", .cls "Eat", .glo "Grow", .cls "Grow", .glo "Both", .cls "Both", .glo "Either", .cls "Either", .glo "Reading", .cls "Reading", .glo "Desk", .cls "Desk", .glo "Plan", .noat "Move" "step", .noat "Move" "plan", .mkr "Move", .noat "Eat" "piece", .noat "Eat" "plan", .mkr "Eat", .noat "Grow" "piece", .noat "Grow" "plan", .mkr "Grow", .noat "Both" "one", .noat "Both" "other", .mkr "Both", .noat "Either" "one", .noat "Either" "other", .mkr "Either", .noat "Reading" "row", .noat "Reading" "at", .noat "Reading" "many", .mkr "Reading", .noat "Desk" "now", .noat "Desk" "past", .mkr "Desk", .meth "Keep" "made", .meth "Keep" "done", .meth "Keep" "parts_in", .meth "Keep" "about", .meth "Nothing" "made", .meth "Nothing" "done", .meth "Nothing" "parts_in", .meth "Nothing" "about", .meth "Everything" "made", .meth "Everything" "done", .meth "Everything" "parts_in", .meth "Everything" "about", .meth "Move" "made", .meth "Move" "done", .meth "Move" "parts_in", .meth "Move" "about", .meth "Eat" "made", .meth "Eat" "done", .meth "Eat" "parts_in", .meth "Eat" "about", .meth "Grow" "made", .meth "Grow" "done", .meth "Grow" "parts_in", .meth "Grow" "about", .meth "Both" "made", .meth "Both" "done", .meth "Both" "parts_in", .meth "Both" "about", .meth "Either" "made", .meth "Either" "done", .meth "Either" "parts_in", .meth "Either" "about", .meth "Reading" "next_word", .meth "Reading" "next_number", .meth "Reading" "next_step", .meth "Reading" "next_piece", .meth "Reading" "next_plan", .meth "Reading" "greater", .meth "Desk" "shape", .meth "Desk" "taken_back", .meth "Desk" "say", .glo "MossError", .glo "Endless", .glo "BadDeed", .glo "TooMany", .glo "BadTurn", .glo "NoText", .exc "Endless", .exc "BadDeed", .exm "NoText" "NoText" true, .exm "NoText" "BadDeed" false, .exm "NoText" "MossError" true, .exm "BadDeed" "NoText" false, .exm "BadDeed" "BadDeed" true, .exm "BadDeed" "MossError" true, .exm "Endless" "NoText" false, .exm "Endless" "BadDeed" false, .exm "Endless" "MossError" true, .glo "WORDS", .glo "BARE", .glo "OF_CELLS", .glo "QUESTIONS", .glo "MIDDLE_least"]
def mk0B (K : PySem.W.Frag) (x : Str) : Bool := PySem.W.makesIn K (He.ga K x) && (He.eqO (PySem.W.findIn K (.ref (He.ga K x)) "__init__") (some (some (.builtin "object.__init__"))) && PySem.W.keepIn K (.ref (He.ga K x)))
def sameM (K : PySem.W.Frag) (c d m : Str) : Bool := decide (He.ma K (He.ga K c) m = He.ma K (He.ga K d) m)
def kitN (K : PySem.W.Frag) (x y : Str) : Bool := decide (PySem.W.kitOne K (.ref (He.ga K x)) (.ref (He.ga K y)) = some false)
def tyB (K : PySem.W.Frag) (x : Str) : Bool := He.eqO (PySem.W.findIn K (.ref (He.ga K x)) "__class__") (some (some (.builtin "object.__class__"))) && (He.eqO (PySem.W.specialIn K (.builtin "object.__class__") "__get__") (some (some (.builtin "getset_descriptor.__get__"))) &&
  (decide (PySem.W.takesIn K (.builtin "object.__class__") = some true) && decide (PySem.W.mroIn K (He.ga K x) (.type "object") = some true)))

def oexB (K : PySem.W.Frag) (x : Str) : Bool := (match K.lookup (He.ga K x) with
  | some ⟨.type t, _, .cls cd, sl⟩ => decide (t = "type") && ((match cd.mro with
    | .ref c :: bm => decide (c = He.ga K x) && PySem.HandSPX.refsVE bm
    | _ => false) && (cd.hasDict && (!cd.hasDel && (match sl.toList with
    | [_, _, _, _, some (.builtin i), _] => decide (i = "ValueError.__new__")
    | _ => false))))
  | _ => false) && (He.eqO (PySem.W.findIn K (.ref (He.ga K x)) "__setattr__") (some (some (.builtin "object.__setattr__"))) && (decide (PySem.W.subIn K (.ref (He.ga K x)) (.type "BaseException") = some true) && (decide (PySem.W.typeIn K (.ref (He.ga K x)) = some (.type "type")) && (PySem.W.keepIn K (.ref (He.ga K x)) &&
  (He.eqO (PySem.W.findIn K (.ref (He.ga K x)) "at") (some none) && (He.eqO (PySem.W.findIn K (.ref (He.ga K x)) "__init__") (some (some (.ref (He.ma K (He.ga K x) "__init__")))) && decide (PySem.W.typeIn K (.ref (He.ma K (He.ga K x) "__init__")) = some (.type "function"))))))))
def cfB : Option PySem.W.CFound → Bool
  | some (.val (.builtin i)) => decide (i = "ValueError.__init__")
  | _ => false
def miB (K : PySem.W.Frag) (x : Str) : Bool := He.eqO (PySem.W.specialIn K (.ref (He.ga K x)) "__getattribute__") (some (some (.builtin "type.__getattribute__"))) && (PySem.W.readsIn K (He.ga K x) (.type "type") && cfB (PySem.W.findCls K (.ref (He.ga K x)) (.type "type") "__init__"))

def xa0 : List (PySem.W.Frag → Bool) := [fun K => He.tupB K "WORDS" [.str "keep", .str "none", .str "all", .str "move", .str "eat", .str "grow", .str "both", .str "either"], fun K => He.tupB K "BARE" [.str "out", .str "thin", .str "back", .str "count", .str "parts", .str "holes", .str "deeds"], fun K => He.tupB K "OF_CELLS" [.str "put", .str "take", .str "move", .str "has"], fun K => He.tupB K "QUESTIONS" [.str "has", .str "count", .str "show", .str "why", .str "same", .str "parts", .str "holes"], fun K => He.tupB K "MIDDLE_least" [.int 0, .int 0], fun K => mk0B K "Keep", fun K => mk0B K "Nothing", fun K => mk0B K "Everything", fun K => sameM K "Keep" "Plan" "done", fun K => sameM K "Nothing" "Plan" "done", fun K => sameM K "Everything" "Plan" "done", fun K => sameM K "Move" "Plan" "done", fun K => sameM K "Eat" "Plan" "done", fun K => sameM K "Grow" "Plan" "done", fun K => sameM K "Both" "Plan" "done", fun K => sameM K "Either" "Plan" "done", fun K => sameM K "Keep" "Plan" "made", fun K => sameM K "Keep" "Plan" "parts_in", fun K => kitN K "Keep" "Move", fun K => kitN K "Keep" "Eat", fun K => kitN K "Keep" "Grow", fun K => kitN K "Keep" "Both", fun K => kitN K "Keep" "Either", fun K => tyB K "Keep", fun K => oexB K "NoText", fun K => miB K "MossError"]
/-- the addresses that the facts look at -/
def seqRefs (g : Addr → Option Obj) (a : Addr) : List Addr := match g a with
  | some ⟨_, _, .dict es _, _⟩ => es.toList.flatMap fun e => He.refV e.val
  | _ => []
def under (g : Addr → Option Obj) (a : Addr) : List Addr := match g a with
  | some ⟨_, _, .func fd, _⟩ => He.refV fd.code
  | some ⟨_, _, .cls cd, _⟩ => [cd.ns]
  | some ⟨_, _, .seq its _, _⟩ => its.toList.flatMap He.refV
  | _ => []
def meths (g : Addr → Option Obj) (a : Addr) : List Addr := match g a with
  | some ⟨_, _, .cls cd, _⟩ => seqRefs g cd.ns
  | _ => []
def asM (g : Addr → Option Obj) : List Addr :=
  mainGlobals :: cStatics :: (seqRefs g mainGlobals ++ ((seqRefs g mainGlobals).flatMap (under g) ++ ((seqRefs g mainGlobals).flatMap (meths g) ++ ((seqRefs g mainGlobals).flatMap (meths g)).flatMap (under g))))
def KM (g : Addr → Option Obj) : PySem.W.Frag := He.frG g (asM g)
abbrev R : PySem.W.OpenRow := PySem.W.OpenLaw.row PySem.Challenge.rw_edgemoss_k91_whole_taken_back

def lo0 : List Str := ["_wall", "MossError", "BadTurn", "TooMany", "Endless", "TooWide", "NoCell", "NoText", "BadDeed", "FAR", "MOST_CELLS", "is_number", "is_cell", "rising", "has", "only_in", "outside", "both", "either", "moved_cell", "less_cell", "moved", "counted", "ALL_TURNS", "QUARTERS"]
def lo1 : List Str := ["look_at_turn", "turned_cell", "turned", "MOST_STEPS_pieces", "FARTHEST", "mirrored", "lies_on", "whole_at", "clear_at", "reached", "kept_at", "grown", "eaten", "MIDDLE_plans", "MOST_MADE", "MOST_PLANS", "DEEPEST", "step_words", "bounded", "Plan", "Keep", "Nothing", "Everything", "Move", "Eat"]
def lo2 : List Str := ["Grow", "Both", "Either", "reach", "MIDDLE_least", "MOST_SETS", "MOST_STEPS_least", "is_part", "holds_any", "looked", "put_on", "joined", "of_eat", "of_grow", "of_plain", "least_pieces", "bars", "answer", "first_within", "lone_in", "alike", "WIDEST", "SIDES", "AROUND", "look_finite"]
def lo3 : List Str := ["flooded", "noted", "regions", "parts", "look_narrow", "holes", "THERE", "LACKING", "drawn", "FIGURES_reading", "MOST_FIGURES_reading", "WORDS", "number_of", "Reading", "plan_from", "FIGURES_rows", "MOST_FIGURES_rows", "MOST_LINES", "BARE", "OF_CELLS", "plain_number", "number_at", "cell_at", "ended", "shown"]
def lo4 : List Str := ["of_plans", "read_row", "near_cells", "why_around", "why_loose", "is_loose", "can_go", "without", "thinned", "left_by", "QUESTIONS", "changed", "let_by", "told_steps", "told_alike", "told_count", "answered", "Desk", "_law_deal", "_law_piece", "_law_tree", "_law_words", "_law_near", "_law_turned", "_law_swelled"]
def lo5 : List Str := ["_law_shrunk", "_law_met", "_law_made", "_law_deed", "_law_said", "_law_due", "_law_refused", "_law_gone_on", "_law_stands", "_law_back"]
def loose : List Str := lo0 ++ (lo1 ++ (lo2 ++ (lo3 ++ (lo4 ++ (lo5)))))
end K91
/-! ==== HdS -/
set_option maxRecDepth 100000
set_option maxHeartbeats 0
namespace K91
open PySem PySem.W PySem.Calls PyProof.Rows HandSHeadRun
abbrev hdQ : PySem.Program := view R.prog [152]
theorem hd_seen (w : World) (os : OsState) : (HandSHeadRun.endF (HandSHeadRun.stepQ (HandSHeadRun.denQ HandSHeadRun.tabQ) R.prog w) 60000 R.prog w os).map (fun s => HandSHeadRun.seenQ hdQ loose (importedModules R.prog.main.body) (fun s => xlAt hdQ [] s && recOk R.toRowW.records s) s.abs) = some (openGood hdQ loose) := by kernel_rfl
end K91
/-! ==== HdL -/
set_option maxRecDepth 100000
set_option maxHeartbeats 0
namespace K91
open PySem PySem.W PySem.Calls PyProof.Rows HandSHeadRun
theorem hd_lx (w : World) (os : OsState) : (HandSHeadRun.endF (HandSHeadRun.stepQ (HandSHeadRun.denQ HandSHeadRun.tabQ) R.prog w) 60000 R.prog w os).map (fun s => looksF R.prog (boot_heap w.params) s.abs && xa0.all fun f => f (KM (HandSHeadRun.getT s))) = some true := by kernel_rfl
end K91
/-! ==== HdG -/
set_option maxRecDepth 100000
set_option maxHeartbeats 0
namespace K91
open PySem PySem.Spec PyProof.Rows L2
theorem hd_fa (w : World) (os : OsState) : (HandSHeadRun.endF (HandSHeadRun.stepQ (HandSHeadRun.denQ HandSHeadRun.tabQ) R.prog w) 60000 R.prog w os).map (fun s => fa0.all fun f => f.ok (KM (HandSHeadRun.getT s))) = some true := by kernel_rfl
end K91
/-! ==== HdF -/
set_option maxRecDepth 100000
set_option maxHeartbeats 0
namespace K91
open PySem PySem.Spec PyProof.Rows L2
theorem hd_fn (w : World) (os : OsState) : (HandSHeadRun.endF (HandSHeadRun.stepQ (HandSHeadRun.denQ HandSHeadRun.tabQ) R.prog w) 60000 R.prog w os).map (fun s => He.obsD [] fn0 (KM (HandSHeadRun.getT s))) = some (He.valD fn0) := by kernel_rfl
end K91
/-! ==== HdT -/
set_option maxRecDepth 100000
set_option maxHeartbeats 0
section
open PySem PySem.W PySem.Calls PyProof.Rows HandSHeadRun
namespace K91
theorem hd_e : opening R.prog = plainProg R.prog.main.scope.names := by kernel_rfl
theorem hd_f (s) : fenceModules? R.prog s = some s := by kernel_rfl
theorem hd_def : defOf hdQ R.name = some (HandSHeadRun.topDef R.prog 152, []) := by kernel_rfl
theorem hd_p : R.prog.theDef R.name = some ((HandSHeadRun.topDef R.prog 152).params, (HandSHeadRun.topDef R.prog 152).body, (HandSHeadRun.topDef R.prog 152).scope) := by kernel_rfl
theorem hd_k : kwWritten? (HandSHeadRun.topDef R.prog 152).params.kwonlyargs (HandSHeadRun.topDef R.prog 152).params.kw_defaults = some [] := by kernel_rfl
theorem hd_wr : (!R.writes || R.records.isEmpty) = true := by rfl
theorem hd_ok : (chainsOk hdQ && opensWell R.prog && (frees R.toRowW && R.within.isEmpty)) = true := by decide +kernel
theorem hd_bare : R.prog.bare := ⟨rfl, rfl, rfl, rfl, rfl, by decide +kernel⟩
theorem hd_name : (HandSHeadRun.topDef R.prog 152).name = ("law" : PySem.Str) := by kernel_rfl
abbrev AlM : Type := He.AlD × Bool × Bool
def obsM (K : PySem.W.Frag) : AlM := (He.obsD [] fn0 K, fa0.all fun f => f.ok K, xa0.all fun f => f K)
def valM : AlM := (He.valD fn0, true, true)
def hdHook : PySem.W.Hook where
  α := AlM
  obs := fun s => obsM (KM s.heap.get?)
  val := fun _ => valM
  says := fun _ h => ∃ K : PySem.W.Frag, K.In h ∧ obsM K = valM
  of := fun _ _ e => ⟨_, He.frG_in, e⟩
  keeps := fun _ _ _ ⟨K, hK, c⟩ k => ⟨K, PySem.W.Frag.In.keeps hK k, c⟩
def hdOb (s : PySem.W.SharedT) : AlM := obsM (KM (HandSHeadRun.getT s))
theorem hdOb_eq (s : PySem.W.SharedT) : hdOb s = hdHook.obs s.abs := by
  show obsM (KM (getT s)) = obsM (KM s.abs.heap.get?)
  rw [show getT s = s.abs.heap.get? from funext (HandSHeadRun.getT_eq s)]
theorem hd_join {S α β : Type} (X : Option S) (f1 : S → Bool) (f2 : S → α) (f3 : S → β) (f4 f5 : S → Bool) {y : α} {z : β} (h1 : X.map (fun s => f1 s && f5 s) = some true) (h2 : X.map f2 = some y) (h3 : X.map f3 = some z) (h4 : X.map f4 = some true) :
    X.map (fun s => (f1 s, f2 s, (f3 s, f4 s, f5 s))) = some (true, y, (z, true, true)) := by
  cases X with
  | none => cases h1
  | some s =>
    have e1 : (f1 s && f5 s) = true := Option.some.inj h1
    rw [Bool.and_eq_true] at e1
    have e2 : f2 s = y := Option.some.inj h2
    have e3 : f3 s = z := Option.some.inj h3
    have e4 : f4 s = true := Option.some.inj h4
    show some (f1 s, f2 s, (f3 s, f4 s, f5 s)) = _
    rw [e1.1, e1.2, e2, e3, e4]
theorem hd_run (w : World) : HandSHeadRun.RunEq R hdQ hdHook hdOb 60000 loose w := fun os =>
  hd_join _ _ _ _ _ _ (hd_lx w os) (hd_seen w os) (hd_fn w os) (hd_fa w os)
end K91
end
section
open PySem PySem.Spec PyProof.Rows L2
/-- the head: what is left is the law's def, walked -/
theorem K91.front (hF : ∀ (K : PySem.W.Frag) (mg : Str → Option Value) (w : World) (h : Heap) (f : Addr), K.In h → h.Ns mainGlobals mg → mg ("law" : Str) = some (.ref f) → K91.obsM K = K91.valM →
    ∃ (fd : FuncData) (sp : Sp), (∀ (s : Shared) (v : Value), BindsTo s fd ⟨[v], []⟩ [("script", v)]) ∧ (∀ (H : Hp) (a : Addr) (ns : List Int), Only H → SqL K H a (ns.map V.int) → sp [.ref a] H (fun v _ => v = .bl true) fun _ _ _ => False) ∧
      ∀ base : Heap, K.In base → base.Ns mainGlobals mg → FnOk (PySem.Challenge.rw_edgemoss_k91_whole_taken_back).prog w K mg base CX0 30 f fd ["script"] sp) : PySem.Challenge.rw_edgemoss_k91_whole_taken_back.Holds := by
  open PySem PySem.W PySem.Calls PyProof.Rows in
  w_on; o_law
  refine HandSHeadRun.head_any (r := OpenLaw.row PySem.Challenge.rw_edgemoss_k91_whole_taken_back) (q := K91.hdQ) (H := K91.hdHook) (ob := K91.hdOb) (M := 60000) (loose := K91.loose) (d := HandSHeadRun.topDef (OpenLaw.row PySem.Challenge.rw_edgemoss_k91_whole_taken_back).prog 152) (kwd := []) K91.hdOb_eq
    K91.hd_e K91.hd_f K91.hd_run K91.hd_def K91.hd_p K91.hd_k K91.hd_wr (by assumption) K91.hd_ok K91.hd_bare ?hw ?hc
  case hw => w_witness2
  case hc =>
    refine L2.walk_ofE (l := PySem.Challenge.rw_edgemoss_k91_whole_taken_back) (n := 63) (k := 30) (x := "script") (CX := L2.CX0) rfl (by decide) (by kernel_rfl) ⟨rfl, by decide, by decide⟩ ?F (fun _ _ _ _ z => z)
    intro w mg fa h Y G hmg0
    obtain ⟨K, KX, c⟩ := Y
    have hmg : mg ("law" : PySem.Str) = some (.ref fa) := by
      rw [← K91.hd_name]
      exact hmg0
    obtain ⟨fd, sp, hb, hs, hF⟩ := hF K mg w h fa KX G hmg c
    exact ⟨K, fd, sp, KX, hb, fun H a ns hl ho hS => hs H a ns ho hS, hF⟩
end
/-! ==== SetG1 -/
set_option maxRecDepth 100000
set_option maxHeartbeats 4000000
/-! Sets of tuples up to a table of 512 places: the round of the places, the search, the insertion, the larger table. -/
namespace SG
open PySem PySem.Spec PyProof.Rows L2

def Msk (m : Nat) : Prop := m = 7 ∨ m = 31 ∨ m = 127 ∨ m = 511

/-- the places that n steps from x visit, as a number's bits -/
def orb (m : Nat) : Nat → Nat → Nat → Nat
  | 0, _, acc => acc
  | n + 1, x, acc => orb m n ((x * 5 + 1) % (m + 1)) (acc ||| (1 <<< x))
theorem lcgI_front (m : Nat) : ∀ (k i : Nat), lcgI m i (k + 1) = lcgI m ((i * 5 + 1) % (m + 1)) k
  | 0, i => rfl
  | k + 1, i => congrArg (fun z => (z * 5 + 1) % (m + 1)) (lcgI_front m k i)
theorem orb_bit (m : Nat) : ∀ (n x acc j : Nat), (orb m n x acc).testBit j = true → acc.testBit j = true ∨ ∃ b, b < n ∧ lcgI m x b = j
  | 0, _, _, _, h => .inl h
  | n + 1, x, acc, j, h => by
    have g : (orb m n ((x * 5 + 1) % (m + 1)) (acc ||| (1 <<< x))).testBit j = true := h
    rcases orb_bit m n _ _ j g with c | ⟨b, hb, e⟩
    · rw [Nat.testBit_or, Bool.or_eq_true] at c
      rcases c with c | c
      · exact .inl c
      · right
        refine ⟨0, Nat.succ_pos n, ?_⟩
        rw [Nat.one_shiftLeft, Nat.testBit_two_pow] at c
        exact of_decide_eq_true c
    · exact .inr ⟨b + 1, Nat.succ_lt_succ hb, (lcgI_front m b x).trans e⟩
theorem lcg_zero (m : Nat) : ∀ k, lcgI m 0 k = lcgN m k
  | 0 => rfl
  | k + 1 => congrArg (fun z => (z * 5 + 1) % (m + 1)) (lcg_zero m k)
theorem orb_full {m : Nat} (h : Msk m) : orb m (m + 1) 0 0 = 2 ^ (m + 1) - 1 := by
  rcases h with e | e | e | e <;> subst e <;> decide +kernel
theorem round_zero {m : Nat} (h : Msk m) : lcgN m (m + 1) = 0 := by
  rcases h with e | e | e | e <;> subst e <;> decide +kernel
theorem from_zero {m j : Nat} (h : Msk m) (hj : j ≤ m) : ∃ b, b ≤ m ∧ lcgN m b = j := by
  have b1 : (orb m (m + 1) 0 0).testBit j = true := by
    rw [orb_full h, Nat.testBit_two_pow_sub_one]
    exact decide_eq_true (Nat.lt_succ_of_le hj)
  rcases orb_bit m _ _ _ j b1 with c | ⟨b, hb, e⟩
  · rw [Nat.zero_testBit] at c
    exact absurd c Bool.false_ne_true
  · exact ⟨b, Nat.le_of_lt_succ hb, (lcg_zero m b).symm.trans e⟩
theorem round_on {m : Nat} (h : Msk m) : ∀ k, lcgN m (m + 1 + k) = lcgN m k
  | 0 => round_zero h
  | k + 1 => congrArg (fun z => (z * 5 + 1) % (m + 1)) (round_on h k)
theorem from_any {m i j : Nat} (h : Msk m) (hi : i ≤ m) (hj : j ≤ m) : ∃ k, k ≤ m ∧ lcgI m i k = j := by
  obtain ⟨a, ha, rfl⟩ := from_zero h hi
  obtain ⟨b, hb, rfl⟩ := from_zero h hj
  by_cases c : a ≤ b
  · exact ⟨b - a, by omega, by rw [lcgN_add, Nat.add_sub_cancel' c]⟩
  · refine ⟨b + (m + 1) - a, by omega, ?_⟩
    rw [lcgN_add, show a + (b + (m + 1) - a) = (m + 1) + b by omega, round_on h]
/-- a run begins at each place early enough -/
theorem run_at {m : Nat} (hm : Msk m) (h : Int) {j : Nat} (hj : j ≤ m) : ∃ n, n ≤ m + 12 ∧ runI m (SetTable.bits h) n = j := by
  obtain ⟨k, hk, e⟩ := from_any hm (runI_le m (SetTable.bits h) 12) hj
  exact ⟨12 + k, Nat.add_comm 12 k ▸ Nat.add_le_add_right hk 12, (runI_tail (bits_lt h) k).trans e⟩
theorem way_at {m : Nat} (hm : Msk m) (h : Int) {j : Nat} (hj : j ≤ m) : ∃ k, k < 10 * SetTable.turns m ∧ way m h k = j := by
  obtain ⟨n, hn, e⟩ := run_at hm h hj
  obtain ⟨k, hk, e2⟩ := run_nth m (SetTable.bits h) n
  have t : SetTable.turns m = m + 15 := rfl
  exact ⟨k, by omega, (congrArg SetTable.Probe.j e2).trans e⟩
theorem way_in (m : Nat) (h : Int) (k : Nat) : way m h k ≤ m := by
  have b0 : SetTable.bits h % (m + 1) ≤ m := Nat.le_of_lt_succ (Nat.mod_lt _ (Nat.succ_pos m))
  have b1 := runEnd_bd b0
  refine Nat.le_trans (Nat.le_add_right _ _) (nth_in k (runAt m (SetTable.bits h % (m + 1)) (SetTable.bits h)) ?_)
  show SetTable.bits h % (m + 1) + (SetTable.runEnd m (SetTable.bits h % (m + 1)) - SetTable.bits h % (m + 1)) ≤ m
  omega

/-- a table in which all that lies is met on its own way, no empty place before it -/
structure Tab (t : SetTable) (hs : List Int) : Prop where
  up : Ris t.place.toList
  dm : t.dummies = #[]
  sz : t.place.toList.length = hs.length
  msk : Msk t.mask
  bd : ∀ x, x ∈ t.place.toList → x ≤ t.mask
  met : ∀ (i : Nat) (h : Int) (j : Nat), hs[i]? = some h → t.place.toList[i]? = some j → ∃ k, way t.mask h k = j ∧ ∀ c, c < k → way t.mask h c ∈ t.place.toList
variable {t : SetTable} {hs : List Int}
theorem Tab.gap (T : Tab t hs) (hl : hs.length ≤ t.mask) (h : Int) : ∃ K, K < 10 * SetTable.turns t.mask ∧ way t.mask h K ∉ t.place.toList ∧ ∀ c, c < K → way t.mask h c ∈ t.place.toList := by
  obtain ⟨j, hj, hn⟩ := st_missing t.place.toList (t.mask + 1) (by have := T.sz; omega)
  obtain ⟨k, hk, e⟩ := way_at T.msk h (Nat.le_of_lt_succ hj)
  obtain ⟨K, a, b, c⟩ := st_least (p := fun k => way t.mask h k ∉ t.place.toList) k (e.symm ▸ hn)
  exact ⟨K, Nat.lt_of_le_of_lt a hk, b, fun k' hk' => Classical.not_not.mp (c k' hk')⟩
theorem Tab.ahead (T : Tab t hs) {h : Int} {K i j : Nat} (hK : way t.mask h K ∉ t.place.toList) (hi : hs[i]? = some h) (hj : t.place.toList[i]? = some j) : ∃ k, k < K ∧ way t.mask h k = j := by
  obtain ⟨k, e, b⟩ := T.met i h j hi hj
  refine ⟨k, Nat.lt_of_not_le fun le => hK ?_, e⟩
  rcases Nat.eq_or_lt_of_le le with q | q
  · rw [q, e]; exact List.mem_of_getElem? hj
  · exact b K q
theorem Tab.put (T : Tab t hs) {h : Int} {K : Nat} (hK : way t.mask h K ∉ t.place.toList) (hb : ∀ c, c < K → way t.mask h c ∈ t.place.toList) :
    ∃ p, SetTable.below t.place (way t.mask h K) = p ∧ p ≤ hs.length ∧ Tab (t.put (way t.mask h K)).1 (hs.take p ++ h :: hs.drop p) := by
  have le := way_in t.mask h K
  generalize hj : way t.mask h K = j at hK le
  obtain ⟨c1, _, _⟩ := below_cut T.up j
  have c2 : SetTable.below t.place j ≤ t.place.toList.length := by rw [Array.length_toList]; exact c1
  have c3 : SetTable.below t.place j ≤ hs.length := T.sz ▸ c2
  have new : t.place[SetTable.below t.place j]? ≠ some j := fun e => hK (List.mem_of_getElem? (by rw [Array.getElem?_toList]; exact e))
  have pl := put_place t j
  have more : ∀ x, x ∈ t.place.toList → x ∈ (t.put j).1.place.toList := fun x hx => by rw [pl]; exact mem_ins.2 (.inr hx)
  refine ⟨_, rfl, c3, ris_insert T.up new, put_dm T.dm j, ?_, T.msk, ?_, ?_⟩
  · rw [pl, len_ins _ c2, len_ins _ c3, T.sz]
  · intro x hx
    rw [pl] at hx
    exact (mem_ins.1 hx).elim (fun e => e ▸ le) (T.bd x)
  · intro i g y h1 h2
    rw [tins_get hs c3] at h1
    rw [pl, tins_get _ c2] at h2
    have old : ∀ i', hs[i']? = some g → t.place.toList[i']? = some y → ∃ k, way t.mask g k = y ∧ ∀ c, c < k → way t.mask g c ∈ (t.put j).1.place.toList := fun i' a b => by
      obtain ⟨k, e, z⟩ := T.met i' g y a b
      exact ⟨k, e, fun c hc => more _ (z c hc)⟩
    by_cases lt : i < SetTable.below t.place j
    · rw [if_pos lt] at h1 h2
      exact old _ h1 h2
    · rw [if_neg lt] at h1 h2
      by_cases eq : i = SetTable.below t.place j
      · rw [if_pos eq] at h1 h2
        cases h1
        cases h2
        exact ⟨K, hj, fun c hc => more _ (hb c hc)⟩
      · rw [if_neg eq] at h1 h2
        exact old _ h1 h2
theorem Tab.fill (T : Tab t hs) : t.fill = hs.length := by
  unfold SetTable.fill
  rw [T.dm, ← T.sz, Array.length_toList] <;> rfl

/-! ### the larger table -/
theorem free_at {m : Nat} (hm : Msk m) (ow : Array (Option Nat)) (h : Int) {j : Nat} (hj : j ≤ m) (hf : oAt ow j = none) :
    ∃ K, SetTable.layClean.free m ow (SetTable.turns m) (SetTable.bits h % (m + 1)) (SetTable.bits h) = some (way m h K) ∧ oAt ow (way m h K) = none ∧ ∀ c, c < K → oAt ow (way m h c) ≠ none := by
  obtain ⟨n, hn, e⟩ := run_at hm h hj
  have w0 : way m h (off m (SetTable.bits h % (m + 1)) (SetTable.bits h) n) = j := by
    refine Eq.trans (congrArg SetTable.Probe.j (nth_off m n _ _)) ?_
    rw [itL_run]
    exact e
  obtain ⟨K, a, b, c⟩ := st_least (p := fun k => oAt ow (way m h k) = none) _ (w0.symm ▸ hf)
  refine ⟨K, free_spec m ow _ n _ _ K (by have : SetTable.turns m = m + 15 := rfl; omega) a (fun k hk => ?_) (by rw [show oAt ow (nth m (runAt m (SetTable.bits h % (m + 1)) (SetTable.bits h)) K).j = none from b] <;> rfl), b, c⟩
  exact Option.isNone_eq_false_iff.mpr (Option.isSome_iff_ne_none.mpr (c k hk))
theorem own_more {m : Nat} (hm : Msk m) {done : List Int} {ow : Array (Option Nat)} (W : Own m done ow) (hl : done.length ≤ m) (h : Int) :
    ∃ j, SetTable.layClean.free m ow (SetTable.turns m) (SetTable.bits h % (m + 1)) (SetTable.bits h) = some j ∧ Own m (done ++ [h]) (ow.setIfInBounds j (some done.length)) := by
  obtain ⟨ps, lps, hps⟩ := W.ps
  obtain ⟨j0, hj0, out⟩ := st_missing ps (m + 1) (by omega)
  have f0 : oAt ow j0 = none := Classical.not_not.mp fun z => out (hps j0 (Nat.le_of_lt_succ hj0) z)
  obtain ⟨K, e1, e2, e3⟩ := free_at hm ow h (Nat.le_of_lt_succ hj0) f0
  have le := way_in m h K
  generalize hj : way m h K = j at e1 e2 le
  have at_j : oAt (ow.setIfInBounds j (some done.length)) j = some done.length := oAt_set_self _ (by rw [W.sz]; exact Nat.lt_succ_of_le le)
  have keep : ∀ i, oAt ow i ≠ none → oAt (ow.setIfInBounds j (some done.length)) i ≠ none := fun i hi => by
    by_cases q : i = j
    · rw [q, at_j]; exact Option.some_ne_none _
    · rw [oAt_set_ne _ q]; exact hi
  refine ⟨j, e1, ⟨(Array.size_setIfInBounds ..).trans W.sz, ?_, ?_, j :: ps, by rw [List.length_append, List.length_cons, lps] <;> rfl, ?_⟩⟩
  · intro y k hy e
    by_cases q : y = j
    · rw [q, at_j] at e
      cases e
      refine ⟨h, K, ?_, hj.trans q.symm, fun c hc => keep _ (e3 c hc)⟩
      rw [List.getElem?_append_right (Nat.le_refl _), Nat.sub_self] <;> rfl
    · rw [oAt_set_ne _ q] at e
      obtain ⟨g, K', a1, a2, a3⟩ := W.at_ y k hy e
      exact ⟨g, K', (List.getElem?_append_left (List.getElem?_eq_some_iff.mp a1).1).trans a1, a2, fun c hc => keep _ (a3 c hc)⟩
  · intro k hk
    rw [List.length_append] at hk
    by_cases q : k = done.length
    · exact ⟨j, le, q ▸ at_j⟩
    · obtain ⟨y, hy, e⟩ := W.all k (Nat.lt_of_le_of_ne (Nat.le_of_lt_succ hk) q)
      refine ⟨y, hy, ?_⟩
      rw [oAt_set_ne _ fun z => by rw [z, e2] at e; cases e]
      exact e
  · intro y hy e
    by_cases q : y = j
    · exact q ▸ List.mem_cons_self
    · rw [oAt_set_ne _ q] at e
      exact List.mem_cons_of_mem _ (hps y hy e)
theorem lay_fold {m : Nat} (hm : Msk m) : ∀ (rest done : List Int) (ow : Array (Option Nat)), Own m done ow → done.length + rest.length ≤ m →
    ∃ ow', rest.foldl (stepF m) (some (ow, done.length)) = some (ow', (done ++ rest).length) ∧ Own m (done ++ rest) ow'
  | [], done, ow, W, _ => ⟨ow, by rw [List.append_nil] <;> rfl, (List.append_nil done).symm ▸ W⟩
  | h :: rest, done, ow, W, hl => by
    have hl2 : done.length + (rest.length + 1) ≤ m := hl
    obtain ⟨j, e, W1⟩ := own_more hm W (by omega) h
    have l1 : (done ++ [h]).length = done.length + 1 := List.length_append ..
    obtain ⟨ow', f, W2⟩ := lay_fold hm rest _ _ W1 (by omega)
    rw [List.append_assoc, l1] at f
    rw [List.append_assoc] at W2
    exact ⟨ow', by rw [List.foldl_cons, stepF_some e]; exact f, W2⟩
theorem lay_all {m : Nat} (hm : Msk m) {xs : Array Int} (hn : xs.size ≤ m) : ∃ ow, SetTable.layClean m xs = some ow ∧ Own m xs.toList ow := by
  obtain ⟨ow, f, W⟩ := lay_fold hm xs.toList [] _ (Own.init m) (by rw [Array.length_toList]; exact (Nat.zero_add _).symm ▸ hn)
  refine ⟨ow, ?_, W⟩
  rw [layClean_eq]
  exact congrArg (Option.map (·.1)) f
theorem laid_anew (t : SetTable) {xs : Array Int} {wanted M : Nat} (hw : SetTable.sizeAbove wanted - 1 = M) (hM : Msk M) (hn : xs.size ≤ M) :
    ∃ t' order, t.relaid xs wanted = some (t', order) ∧ order.toList.Perm (List.range xs.size) ∧ Tab t' (order.toList.map fun i => xs.getD i 0) ∧ t'.mask = M ∧ t'.led = t.led ∧ t'.plain = t.plain := by
  obtain ⟨ow, e, W⟩ := lay_all hM hn
  have up := ris_live (fun j => ow.getD j none) (List.range (M + 1)) (by unfold Ris; first | exact List.pairwise_lt_range | exact List.pairwise_lt_range _)
  have u1 : Ris ((liveOf M ow).map (·.1)) := up.1
  have apart : ((liveOf M ow).map (·.1)).Nodup := List.Pairwise.imp (R := (· < ·)) (fun q => Nat.ne_of_lt q) u1
  have inl : ∀ j k, (j, k) ∈ liveOf M ow ↔ j ≤ M ∧ oAt ow j = some k := fun j k => mem_live W.sz
  have all2 : ∀ k, k < xs.size → k ∈ (liveOf M ow).map (·.2) := fun k hk => by
    obtain ⟨j, a, b⟩ := W.all k ((Array.length_toList (xs := xs)).symm ▸ hk)
    exact List.mem_map_of_mem (f := (·.2)) ((inl j k).2 ⟨a, b⟩)
  have ll : (liveOf M ow).length = xs.size := by
    obtain ⟨ps, p1, p2⟩ := W.ps
    refine Nat.le_antisymm ?_ ?_
    · have := nat_nodup_len ((liveOf M ow).map (·.1)) ps apart fun x hx => by
        obtain ⟨⟨y, k⟩, hq, rfl⟩ := List.mem_map.mp hx
        obtain ⟨b1, b2⟩ := (inl y k).1 hq
        exact p2 y b1 (b2.symm ▸ Option.some_ne_none k)
      rw [List.length_map, p1, Array.length_toList] at this
      exact this
    · have := nat_nodup_len (List.range xs.size) ((liveOf M ow).map (·.2)) List.nodup_range fun k hk => all2 k (List.mem_range.mp hk)
      rw [List.length_range, List.length_map] at this
      exact this
  refine ⟨tabOf t M ow, ((liveOf M ow).map (·.2)).toArray, by rw [relaid_eq, hw, e] <;> rfl, perm_range _ _ ((List.length_map ..).trans ll) all2, ⟨u1, rfl, ?_, hM, ?_, ?_⟩, rfl, rfl, rfl⟩
  · show ((liveOf M ow).map (·.1)).length = (((liveOf M ow).map (·.2)).map _).length
    rw [List.length_map, List.length_map, List.length_map]
  · exact fun x hx => Nat.le_of_lt_succ (List.mem_range.mp (up.2 x hx))
  · intro i h j h1 h2
    have h1' : (((liveOf M ow).map (·.2)).map fun i => xs.getD i 0)[i]? = some h := h1
    have h2' : ((liveOf M ow).map (·.1))[i]? = some j := h2
    rw [List.getElem?_map, List.getElem?_map] at h1'
    rw [List.getElem?_map] at h2'
    obtain ⟨⟨y, k⟩, hq, rfl⟩ := Option.map_eq_some_iff.mp h2'
    rw [hq] at h1'
    obtain ⟨b1, b2⟩ := (inl y k).1 (List.mem_of_getElem? hq)
    obtain ⟨g, K, a1, a2, a3⟩ := W.at_ y k b1 b2
    have eg : xs.getD k 0 = g := by rw [Array.getD_eq_getD_getElem?, ← Array.getElem?_toList, a1] <;> rfl
    have eh : g = h := eg.symm.trans (Option.some.inj h1')
    refine ⟨K, eh ▸ a2, fun c hc => ?_⟩
    show way M h c ∈ (liveOf M ow).map (·.1)
    obtain ⟨k2, hk2⟩ := Option.ne_none_iff_exists'.mp (a3 c hc)
    rw [← eh]
    exact List.mem_map_of_mem (f := (·.1)) ((inl _ k2).2 ⟨way_in M g c, hk2⟩)
theorem size_a : SetTable.sizeAbove (SetTable.grown 5) = 32 := by decide +kernel
theorem size_b : SetTable.sizeAbove (SetTable.grown 19) = 128 := by decide +kernel
theorem size_c : SetTable.sizeAbove (SetTable.grown 77) = 512 := by decide +kernel
end SG
/-! ==== SetG2 -/
set_option maxRecDepth 100000
set_option maxHeartbeats 4000000
namespace SG
open PySem PySem.Spec PyProof.Rows L2
section
variable {P : Program} {w : World} {A : Around} {E : Value → Shared → Prop} {s : Shared}
/-- the set at a: its rows L (a tuple's address, its ints), at most 300 -/
structure SR (P : Program) (w : World) (h : Heap) (a : Addr) (L : List (Addr × List Int)) (es : Array (Int × Value)) (ep : Nat) (t : SetTable) : Prop where
  ob : ∃ o, h.get? a = some o ∧ o.ExactSet ∧ o.data = .set es ep t
  rows : es.toList = rowsOf P w L
  tab : Tab t (L.map fun p => thash P w p.2)
  nd : (L.map (·.2)).Nodup
  tup : ∀ p ∈ L, IsT P w h p.2 p.1
  plain : t.plain = true
  led : w.params.followText "set-order" = true ∨ t.led = true
  room : L.length * 5 < t.mask * 3
  few : L.length ≤ 300
variable {a : Addr} {L : List (Addr × List Int)} {es : Array (Int × Value)} {ep : Nat} {t : SetTable}
theorem rows_len (h : es.toList = rowsOf P w L) : es.size = L.length := by
  rw [← Array.length_toList, h]
  exact List.length_map ..
theorem rows_at (h : es.toList = rowsOf P w L) {i : Nat} {p : Addr × List Int} (hp : L[i]? = some p) : es[i]? = some (thash P w p.2, Value.ref p.1) := by
  rw [← Array.getElem?_toList, h]
  show (L.map _)[i]? = _
  rw [List.getElem?_map, hp] <;> rfl
theorem fits_of (T : Tab t (L.map fun p => thash P w p.2)) (hr : es.toList = rowsOf P w L) (h : L.length ≤ t.mask) : t.fits es.size = true := by
  have l1 := T.sz
  rw [List.length_map, Array.length_toList] at l1
  unfold SetTable.fits
  rw [Bool.and_eq_true, beq_iff_eq, decide_eq_true_eq, T.fill, List.length_map, rows_len hr]
  exact ⟨l1, h⟩
theorem SR.fits (R : SR P w s.heap a L es ep t) : t.fits es.size = true := fits_of R.tab R.rows (by have := R.room; omega)
theorem SR.whole (R : SR P w s.heap a L es ep t) : ¬ t.gaveWay = true := by
  have o : t.mask % 2 = 1 := by rcases R.tab.msk with e | e | e | e <;> rw [e]
  unfold SetTable.gaveWay
  rw [o]
  decide
theorem no_dummy (m : Nat) : ∀ (n : Nat) (p : SetTable.Probe), p.dummy = none → (nth m p n).dummy = none
  | 0, _, h => h
  | n + 1, p, h => no_dummy m n (adv m p) (by unfold adv; split <;> exact h)
/-- the search for a tuple of the ints k, from the c-th place of its way on: K is the first empty place -/
theorem seek (R : SR P w s.heap a L es ep t) {x : Addr} {k : List Int} (hx : IsT P w s.heap k x) (hu : A.units < cLine) {K : Nat} (hf : K < 10 * SetTable.turns t.mask)
    (hK : way t.mask (thash P w k) K ∉ t.place.toList) (hb : ∀ c, c < K → way t.mask (thash P w k) c ∈ t.place.toList) {Q : SetFound → Shared → Prop}
    (yes : k ∈ L.map (·.2) → Q (.there none) s) (no : k ∉ L.map (·.2) → Q (.free (way t.mask (thash P w k) K) false) s) :
    ∀ (f c : Nat) (at_ : Option SetTable.Probe), at_.getD (t.probeStart (thash P w k)) = nth t.mask (t.probeStart (thash P w k)) c → c ≤ K → K < c + f →
      (∀ (i : Nat) (p : Addr × List Int), L[i]? = some p → p.2 = k → ∃ c', c ≤ c' ∧ c' < K ∧ t.place.toList[i]? = some (way t.mask (thash P w k) c')) →
      wpAny (model P w) A (setSearchFrom a (.ref x) (thash P w k) true f at_) Q E s := by
  intro f
  induction f with
  | zero => intro c _ _ h1 h2; omega
  | succ f ih =>
    intro c at_ e0 hc hcf left
    obtain ⟨o, ho, _, hd⟩ := R.ob
    have nx : ∀ q, nth t.mask (nth t.mask (t.probeStart (thash P w k)) c) q = nth t.mask (t.probeStart (thash P w k)) (c + q) := fun q => (nth_add t.mask c _ q).symm
    have wy : ∀ q, (nth t.mask (nth t.mask (t.probeStart (thash P w k)) c) q).j = way t.mask (thash P w k) (c + q) := fun q => congrArg SetTable.Probe.j (nx q)
    have hash : ∀ (i : Nat) (p : Addr × List Int), L[i]? = some p → (es[i]?.map (·.1)).getD 0 = thash P w p.2 := fun i p hp => by rw [rows_at R.rows hp] <;> rfl
    have cK : c + (K - c) = K := Nat.add_sub_cancel' hc
    -- an equal one is not overlooked
    have over : ∀ {i0 : Nat} {p0 : Addr × List Int} {c' : Nat}, L[i0]? = some p0 → p0.2 = k → c ≤ c' → t.place.toList[i0]? = some (way t.mask (thash P w k) c') → ∀ n : Nat, (∀ k' i' : Nat, k' < n → t.place.toList[i']? = some (nth t.mask (nth t.mask (t.probeStart (thash P w k)) c) k').j → (es[i']?.map (·.1)).getD 0 ≠ thash P w k) → c + n ≤ c' := by
      intro i0 p0 c' h0 hk0 hcc hp n hno
      refine Nat.le_of_not_lt fun lt => hno (c' - c) i0 (by omega) ?_ ?_
      · rw [wy, Nat.add_sub_cancel' hcc]; exact hp
      · rw [hash i0 p0 h0, hk0]
    rw [setSearchFrom_succ]
    refine wpAny_bind (wpAny_setState_of ho hd R.fits ?_)
    dsimp only
    refine wp_if_neg R.whole ?_
    try refine wpAny_bind (wpAny_pure ?_)
    rcases go_spec t R.tab.up R.tab.dm (fun i => (es[i]?.map (·.1)).getD 0) (thash P w k) (10 * SetTable.turns t.mask) (K - c) _ (no_dummy t.mask c _ rfl) (by omega)
      (fun q hq => by rw [wy]; exact hb _ (by omega)) (by rw [wy, cK]; exact hK) with ⟨q, i, hq, hi, hh, hno, hpr⟩ | ⟨hno, hpr⟩
    · rw [wy, nx] at hpr
      rw [wy] at hi
      have hpr2 : t.probe (fun i => (es[i]?.map (·.1)).getD 0) (thash P w k) (at_.getD (t.probeStart (thash P w k))) = some (.candidate (way t.mask (thash P w k) (c + q)) i (nth t.mask (t.probeStart (thash P w k)) (c + (q + 1)))) := by rw [e0]; exact hpr
      rw [hpr2]
      dsimp only
      have il : i < L.length := by
        have a1 := (List.getElem?_eq_some_iff.mp hi).1
        rw [R.tab.sz, List.length_map] at a1
        exact a1
      obtain ⟨p, hp⟩ : ∃ p, L[i]? = some p := ⟨_, List.getElem?_eq_getElem il⟩
      have pm := List.mem_of_getElem? hp
      have slot := slot_live R.tab.up hi
      have on : wpAny (model P w) A (searchRest a (.ref x) (thash P w k) true f es t (way t.mask (thash P w k) (c + q)) i (nth t.mask (t.probeStart (thash P w k)) (c + (q + 1)))) Q E s := by
        unfold searchRest
        rw [rows_at R.rows hp]
        dsimp only
        refine wpAny_bind (wpAny_holding (wpAny_eqBool_tuple hu (R.tup p pm) hx ?_))
        refine wpAny_bind (wpAny_setState_of ho hd R.fits ?_)
        dsimp only
        by_cases same : p.2 = k
        · refine wp_if_pos (by simp [same]) ?_
          exact wpAny_pure (yes (same ▸ List.mem_map_of_mem (f := (·.2)) pm))
        · refine wp_if_neg (by simp [same]) ?_
          try refine wpAny_bind (wpAny_pure ?_)
          rw [sameMem]
          dsimp only
          simp only [if_true, slot, rows_at R.rows hp]
          refine wpAny_bind (wpAny_isSame_ref_self (wpAny_bind (wpAny_pure ?_)))
          simp only [if_true]
          refine wp_if_neg (by simp [same]) ?_
          refine ih (c + (q + 1)) _ rfl (by omega) (by omega) fun i0 p0 h0 hk0 => ?_
          obtain ⟨c', b1, b2, b3⟩ := left i0 p0 h0 hk0
          have b4 := over h0 hk0 b1 b3 q hno
          refine ⟨c', Nat.lt_of_le_of_ne b4 fun e => same ?_, b2, b3⟩
          rw [← e] at b3
          have z := (slot_live R.tab.up b3).symm.trans slot
          cases z
          rw [h0] at hp
          cases hp
          exact hk0
      by_cases hl : t.led = true
      · refine wp_if_neg (by simp [hl]) ?_
        try refine wpAny_bind (wpAny_pure ?_)
        exact on
      · refine wp_if_pos (by simp [hl]) ?_
        refine wpAny_bind (seen_tup hx (fun y hy => ?_) ?_)
        · obtain ⟨e, he, rfl⟩ := List.mem_map.mp hy
          have he1 : e ∈ es ∧ e.1 = thash P w k := by simpa using he
          have he2 : e ∈ rowsOf P w L := R.rows ▸ (by simpa using he1.1 : e ∈ es.toList)
          obtain ⟨p2, hp2, rfl⟩ := List.mem_map.mp he2
          exact ⟨p2.2, p2.1, rfl, R.tup p2 hp2⟩
        · refine wp_if_neg (by decide) ?_
          try refine wpAny_bind (wpAny_pure ?_)
          exact on
    · rw [wy, cK] at hpr
      have hpr2 : t.probe (fun i => (es[i]?.map (·.1)).getD 0) (thash P w k) (at_.getD (t.probeStart (thash P w k))) = some (.empty (way t.mask (thash P w k) K) none) := by rw [e0]; exact hpr
      rw [hpr2]
      dsimp only
      refine wpAny_pure (no fun hm => ?_)
      obtain ⟨p0, h0, hk0⟩ := List.mem_map.mp hm
      obtain ⟨i0, h00⟩ := List.getElem?_of_mem h0
      obtain ⟨c', b1, b2, b3⟩ := left i0 p0 h00 hk0
      have := over h00 hk0 b1 b3 (K - c) hno
      omega
theorem sought (R : SR P w s.heap a L es ep t) {x : Addr} {k : List Int} (hx : IsT P w s.heap k x) (hu : A.units < cLine) {Q : SetFound → Shared → Prop} (yes : k ∈ L.map (·.2) → Q (.there none) s)
    (no : ∀ K, k ∉ L.map (·.2) → way t.mask (thash P w k) K ∉ t.place.toList → (∀ c, c < K → way t.mask (thash P w k) c ∈ t.place.toList) → Q (.free (way t.mask (thash P w k) K) false) s) :
    wpAny (model P w) A (setSearch a (.ref x) (thash P w k) true) Q E s := by
  obtain ⟨K, hf, hK, hb⟩ := R.tab.gap (by rw [List.length_map]; have := R.room; omega) (thash P w k)
  have small : 10 * SetTable.turns t.mask ≤ 10000 := by
    have z : SetTable.turns t.mask = t.mask + 15 := rfl
    rcases R.tab.msk with e | e | e | e <;> omega
  unfold setSearch
  refine seek R hx hu hf hK hb yes (fun hn => no K hn hK hb) 100000 0 none rfl (Nat.zero_le K) (by omega) fun i p hp hk => ?_
  have h1 : (L.map fun p => thash P w p.2)[i]? = some (thash P w k) := by rw [List.getElem?_map, hp, ← hk] <;> rfl
  have il : i < t.place.toList.length := by rw [R.tab.sz]; exact (List.getElem?_eq_some_iff.mp h1).1
  obtain ⟨c, hc, e⟩ := R.tab.ahead hK h1 (List.getElem?_eq_getElem il)
  exact ⟨c, Nat.zero_le c, hc, e ▸ List.getElem?_eq_getElem il⟩
/-- the table laid anew -/
theorem relaid {o : Obj} (ho : s.heap.get? a = some o) (hex : o.ExactSet) (hd : o.data = .set es ep t) (hr : es.toList = rowsOf P w L) (T : Tab t (L.map fun p => thash P w p.2)) (hfl : L.length ≤ t.mask)
    (nd : (L.map (·.2)).Nodup) (tup : ∀ p ∈ L, IsT P w s.heap p.2 p.1) (pl : t.plain = true) (ld : w.params.followText "set-order" = true ∨ t.led = true) (few : L.length ≤ 300) {wanted M : Nat}
    (hw : SetTable.sizeAbove wanted = M + 1) (hM : Msk M) (hn : L.length * 5 < M * 3) {Q : Unit → Shared → Prop}
    (hQ : ∀ h' L' es' ep' t', Heap.SameBut a s.heap h' → SR P w h' a L' es' ep' t' → L'.Perm L → Q () { s with heap := h' }) : wpAny (model P w) A (setRelay a wanted) Q E s := by
  have sl := rows_len hr
  have sz : (es.map (·.1)).size = L.length := (Array.size_map ..).trans sl
  obtain ⟨t', order, e, pm, T', em, el, epl⟩ := laid_anew t (xs := es.map (·.1)) (wanted := wanted) (M := M) (by omega) hM (by omega)
  rw [sz] at pm
  obtain ⟨L2, r1, r2, r3⟩ := order_rows L es order hr pm
  rw [← r3] at T'
  have sz2 : (order.filterMap (es[·]?)).size = es.size := by rw [rows_len r1, r2.length_eq, sl]
  have big : M + 1 ≤ 512 := by rcases hM with e | e | e | e <;> omega
  rw [setRelay_eq]
  refine wpAny_bind (wpAny_setState_of ho hd (fits_of T hr hfl) ?_)
  dsimp only
  refine wp_if_neg (by rw [sizeLine_eq]; omega) ?_
  try refine wpAny_bind (wpAny_pure ?_)
  rw [e]
  dsimp only
  refine wpAny_bind ?_
  refine wp_if_neg (by rw [sz2]; simp) ?_
  try refine wpAny_bind (wpAny_pure ?_)
  refine wpAny_pure ?_
  dsimp only
  refine wpAny_storeSet_of ho hd ?_ (by rw [sz2, sl, sizeLine_eq]; omega)
  have sb : Heap.SameBut a s.heap (s.heap.update a (Obj.putSet (order.filterMap (es[·]?)) t')) := Heap.SameBut.update ..
  refine hQ _ L2 _ (ep + 1) t' sb ⟨⟨_, store_at ho hd, ⟨hex.1, hex.2.1, hex.2.2⟩, rfl⟩, r1, T', (r2.map (·.2)).nodup_iff.mpr nd, fun p hp => isT_same (tup p (r2.mem_iff.mp hp)) ho hd sb, epl.trans pl, el.symm ▸ ld, ?_, r2.length_eq ▸ few⟩ r2
  rw [r2.length_eq, em]
  exact hn
/-- a tuple is put in -/
theorem added (R : SR P w s.heap a L es ep t) {x : Addr} {k : List Int} (hx : IsT P w s.heap k x) (hu : A.units < cLine) (few : L.length + 1 ≤ 300) {Q : Bool → Shared → Prop}
    (hQ : ∀ b h' L' es' ep' t', Heap.SameBut a s.heap h' → SR P w h' a L' es' ep' t' → (k ∈ L.map (·.2) → L' = L) → (k ∉ L.map (·.2) → L'.Perm ((x, k) :: L)) → Q b { s with heap := h' }) :
    wpAny (model P w) A (setAddHashed a (.ref x) (thash P w k)) Q E s := by
  obtain ⟨o, ho, hex, hd⟩ := R.ob
  have room := R.room
  unfold setAddHashed
  refine wpAny_holding ?_
  rw [show (100000 : Nat) = 99999 + 1 from rfl, setAddHashedIn_succ]
  refine wpAny_bind (wpAny_setState_of ho hd R.fits ?_)
  dsimp only
  refine wp_if_neg (by simp [byScan, Value.scannable]) ?_
  try refine wpAny_bind (wpAny_pure ?_)
  refine wpAny_bind (sought R hx hu (fun hm => ?_) fun K hm hK hb => ?_)
  · dsimp only
    exact wpAny_pure (hQ false s.heap L es ep t (Heap.SameBut.refl a s.heap) R (fun _ => rfl) fun z => absurd hm z)
  dsimp only
  refine wpAny_bind (wpAny_setState_of ho hd R.fits ?_)
  dsimp only
  obtain ⟨p, hp, hpl, T1⟩ := R.tab.put hK hb
  have f1 : (t.put (way t.mask (thash P w k) K)).1.mask = t.mask := rfl
  have f2 : (t.put (way t.mask (thash P w k) K)).1.led = t.led := rfl
  have f3 : (t.put (way t.mask (thash P w k) K)).1.plain = t.plain := rfl
  have f4 : (t.put (way t.mask (thash P w k) K)).2 = p := hp
  generalize t.put (way t.mask (thash P w k) K) = pt at T1 f1 f2 f3 f4 ⊢
  obtain ⟨t1, p1⟩ := pt
  dsimp only at T1 f1 f2 f3 f4 ⊢
  subst f4
  have pl1 : t1.plain = true := f3.trans R.plain
  first
    | (refine wpAny_bind ?_; refine wp_if_pos pl1 ?_; refine hashBy_tup hx ?_)
    | refine wp_if_pos pl1 (wpAny_bind (hashBy_tup hx ?_))
  simp only [if_true]
  have pm := put_perm L p1 (x, k)
  have r1 : (SetTable.insertAt es p1 (thash P w k, Value.ref x)).toList = rowsOf P w (L.take p1 ++ (x, k) :: L.drop p1) := by rw [SetTable.toList_insertAt, rows_put, R.rows]
  have T2 : Tab t1 ((L.take p1 ++ (x, k) :: L.drop p1).map fun p => thash P w p.2) := by
    rw [List.map_append, List.map_cons, List.map_take, List.map_drop]
    exact T1
  generalize L.take p1 ++ (x, k) :: L.drop p1 = L1 at pm r1 T2
  have len : L1.length = L.length + 1 := pm.length_eq
  have sl := rows_len r1
  have nd1 : (L1.map (·.2)).Nodup := (pm.map (·.2)).nodup_iff.mpr (List.nodup_cons.mpr ⟨hm, R.nd⟩)
  generalize SetTable.insertAt es p1 (thash P w k, Value.ref x) = es1 at r1 sl ⊢
  refine wpAny_bind (wpAny_storeSet_of ho hd ?_ (by rw [sl, len, sizeLine_eq]; omega))
  have sb : Heap.SameBut a s.heap (s.heap.update a (Obj.putSet es1 t1)) := Heap.SameBut.update ..
  have ho1 := store_at (es' := es1) (t' := t1) ho hd
  generalize s.heap.update a (Obj.putSet es1 t1) = h1 at sb ho1 ⊢
  have tup1 : ∀ p ∈ L1, IsT P w h1 p.2 p.1 := fun p hp => (List.mem_cons.mp (pm.mem_iff.mp hp)).elim (fun e => e ▸ isT_same hx ho hd sb) fun hp => isT_same (R.tup p hp) ho hd sb
  have ld1 : w.params.followText "set-order" = true ∨ t1.led = true := f2.symm ▸ R.led
  have tf : t1.tooFull = decide (L1.length * 5 ≥ t1.mask * 3) := by
    unfold SetTable.tooFull
    rw [T2.fill, List.length_map]
  by_cases hf : t1.tooFull = true
  · first
      | (refine wpAny_bind ?_; refine wp_if_pos (by simp [hf]) ?_)
      | (refine wp_if_pos (by simp [hf]) ?_; refine wpAny_bind ?_)
    rw [tf, decide_eq_true_eq, f1] at hf
    rw [rows_len R.rows]
    have go : ∀ M, SetTable.sizeAbove (SetTable.grown (L.length + 1)) = M + 1 → Msk M → L1.length * 5 < M * 3 →
        wpAny (model P w) A (setRelay a (SetTable.grown (L.length + 1))) (fun _ s' => wpAny (model P w) A (pure true) Q E s') E { s with heap := h1 } := fun M g1 g2 g3 =>
      relaid (s := { s with heap := h1 }) ho1 ⟨hex.1, hex.2.1, hex.2.2⟩ rfl r1 T2 (by omega) nd1 tup1 pl1 ld1 (by omega) g1 g2 g3 fun h2 L2 es2 ep2 t2 sb2 R2 pm2 =>
        wpAny_pure (hQ true h2 L2 es2 ep2 t2 (sb.trans sb2) R2 (fun z => absurd z hm) fun _ => pm2.trans pm)
    rcases R.tab.msk with e | e | e | e
    · have l4 : L.length = 4 := by omega
      exact go 31 (by rw [l4]; exact size_a) (.inr (.inl rfl)) (by omega)
    · have l4 : L.length = 18 := by omega
      exact go 127 (by rw [l4]; exact size_b) (.inr (.inr (.inl rfl))) (by omega)
    · have l4 : L.length = 76 := by omega
      exact go 511 (by rw [l4]; exact size_c) (.inr (.inr (.inr rfl))) (by omega)
    · omega
  · first
      | refine wp_if_neg (by simp [hf]) ?_
      | (refine wpAny_bind ?_; refine wp_if_neg (by simp [hf]) ?_; refine wpAny_pure ?_)
    rw [tf, decide_eq_true_eq] at hf
    exact wpAny_pure (hQ true h1 L1 es1 (ep + 1) t1 sb ⟨⟨_, ho1, ⟨hex.1, hex.2.1, hex.2.2⟩, rfl⟩, r1, T2, nd1, tup1, pl1, ld1, by omega, by omega⟩ (fun z => absurd z hm) fun _ => pm)
end
end SG
/-! ==== SetG3 -/
set_option maxRecDepth 100000
set_option maxHeartbeats 4000000
namespace SG
open PySem PySem.Spec PyProof.Rows L2
section
variable {P : Program} {w : World} {A : Around} {E : Value → Shared → Prop} {s : Shared}
theorem SR.stay {h h' : Heap} {a : Addr} {L : List (Addr × List Int)} {es : Array (Int × Value)} {ep : Nat} {t : SetTable} (R : SR P w h a L es ep t) (ha : ∀ o, h.get? a = some o → h'.get? a = some o) (ht : ∀ p ∈ L, IsT P w h' p.2 p.1) : SR P w h' a L es ep t :=
  ⟨R.ob.imp fun o z => ⟨ha o z.1, z.2⟩, R.rows, R.tab, R.nd, ht, R.plain, R.led, R.room, R.few⟩
/-- the object of an empty set -/
abbrev setO (w : World) : Obj := { cls := .type "set", dict := none, data := .set #[] 0 (.fresh 0 0 (!w.params.followText "set-order")) }
theorem SR.fresh {h : Heap} {a : Addr} (ho : h.get? a = some (setO w)) : SR P w h a [] #[] 0 (.fresh 0 0 (!w.params.followText "set-order")) where
  ob := ⟨_, ho, ⟨rfl, rfl, rfl⟩, rfl⟩
  rows := rfl
  tab := { up := List.Pairwise.nil, dm := rfl, sz := rfl, msk := .inl rfl, bd := fun _ z => (nomatch z), met := fun i h j z => by simp at z }
  nd := List.nodup_nil
  tup := fun _ z => nomatch z
  plain := rfl
  led := by
    cases e : w.params.followText "set-order" with
    | true => exact .inl rfl
    | false => exact .inr rfl
  room := show 0 * 5 < 7 * 3 by decide
  few := show 0 ≤ 300 by decide
/-- the loop that puts in what an iterator yields -/
theorem fill_loop {I : Addr} {fp wr : List Addr} {G : Array GenState → Array GenState → Prop} {n : Nat} {Pv : Nat → Value → Prop} {St : Nat → Shared → Prop} {R : Result → Shared → Prop}
    (W : WalksS P w A.in1 I fp wr G n Pv St) (S : Addr) (nS : S ∉ fp) (ks : List (Addr × List Int)) (hn : n = ks.length) (few : ks.length ≤ 300) (val : ∀ i v, Pv i v → ∃ p, ks[i]? = some p ∧ v = .ref p.1)
    (g : Heap) (hk : ∀ p ∈ ks, IsT P w g p.2 p.1) (gS : g.get? S = none) (gw : ∀ b ∈ wr, g.get? b = none) (hu : A.in1.units < cLine) :
    ∀ (k i : Nat) (s : Shared), i + k = n → St i s → (∀ b o, g.get? b = some o → s.heap.get? b = some o) → (∃ L es ep t, SR P w s.heap S L es ep t ∧ Got ks i L) →
      (∀ s' L es ep t, Moved (S :: wr) G s s' → SR P w s'.heap S L es ep t → Got ks n L → (∀ b o, g.get? b = some o → s'.heap.get? b = some o) → R (.ok (.ret .none)) s') →
      codeAny (model P w) A (.builtin "set.update.loop" ⟨[.ref S, .ref I], []⟩) R s := by
  have nw : S ∉ wr := fun z => nS (W.sub _ z)
  have sub : ∀ b ∈ wr, b ∈ S :: wr := fun b z => List.mem_cons_of_mem _ z
  have onM : ∀ {s s' : Shared}, Moved wr G s s' → (∀ b o, g.get? b = some o → s.heap.get? b = some o) → ∀ b o, g.get? b = some o → s'.heap.get? b = some o := fun m kp b o e =>
    m.heap b o (fun z => by rw [gw b z] at e; cases e) (kp b o e)
  have inK : ∀ {i L}, Got ks i L → ∀ p ∈ L, p ∈ ks := fun q p z => List.mem_of_mem_take (q.sub p z)
  intro k
  induction k with
  | zero =>
    intro i s hi st kp ⟨L, es, ep, t, hS, q⟩ hR
    have e : i = n := hi
    subst e
    refine codeAny_builtin F.entry_set_update_loop ?_
    rw [Around.under_plainId F.plain_set_update_loop _]
    show wpAny _ A.in1 (pyNext (.ref I) >>= _) _ _ s
    refine wpAny_bind (W.done s _ _ st fun s' m => ?_)
    show wpAny _ A.in1 (ret Value.none) _ _ s'
    have kp' := onM m kp
    exact wpAny_pure (hR s' L es ep t (m.mono sub) (hS.stay (fun o e => m.heap S o nw e) fun p z => isT_keep (hk p (inK q p z)) kp') q kp')
  | succ k ih =>
    intro i s hi st kp ⟨L, es, ep, t, hS, q⟩ hR
    have lt : i < n := by omega
    refine codeAny_builtin F.entry_set_update_loop ?_
    rw [Around.under_plainId F.plain_set_update_loop _]
    show wpAny _ A.in1 (pyNext (.ref I) >>= _) _ _ s
    refine wpAny_bind (W.item i s _ _ lt st fun v s' hv st' m => ?_)
    obtain ⟨p, hp, rfl⟩ := val i v hv
    have kp' := onM m kp
    have hS' := hS.stay (fun o e => m.heap S o nw e) fun p z => isT_keep (hk p (inK q p z)) kp'
    have hx := isT_keep (hk p (List.mem_of_getElem? hp)) kp'
    show wpAny _ A.in1 (holding [Value.ref p.1] (setAdd S (.ref p.1)) >>= _) _ _ s'
    refine wpAny_bind (wpAny_holding ?_)
    unfold setAdd
    refine wpAny_holding ?_
    refine wpAny_bind (wpAny_pyHash_tuple hu hx ?_)
    refine added (s := { s' with toks := s'.toks + (p.2.length + 1) }) hS' hx hu (by have := q.len; omega) fun b h' L' es' ep' t' sb S2 old new => ?_
    have q' : Got ks (i + 1) L' := (Classical.em (p.2 ∈ L.map (·.2))).elim (fun c => old c ▸ q.same hp c) fun c => q.more hp (new c)
    have kp2 : ∀ b o, g.get? b = some o → h'.get? b = some o := fun b o e => (sb.2 b fun z => by rw [z, gS] at e; cases e).trans (kp' b o e)
    refine wpAny_pure ⟨plainId_quiet F.plain_set_update_loop _, ih (i + 1) _ (by omega) (W.frame _ s' _ _ st' (Nat.le_add_right _ _) fun b hb o e => (sb.2 b fun z => nS (z ▸ hb)).trans e) kp2 ⟨L', es', ep', t', S2, q'⟩ fun s'' L2 es2 ep2 t2 m2 S3 q3 kp3 => ?_⟩
    exact hR s'' L2 es2 ep2 t2 (Moved.trans W.gtrans ((m.mono sub).then_heap (Nat.le_add_right _ _) fun b o hb e => (sb.2 b fun z => hb (z ▸ List.mem_cons_self)).trans e) m2) S3 q3 kp3

/-- set.__init__ of what is neither a set nor a dict -/
theorem init_from {s : Shared} {S l : Addr} {c : String} {od : Option Addr} {dt : Data} {os : Array (Option Value)} {R : PySem.Fin → Shared → Prop} (hS : s.heap.get? S = some (setO w)) (ho : s.heap.get? l = some ({ cls := .type c, dict := od, data := dt, slots := os } : Obj))
    (d1 : isSubtype (Value.type c) (Value.type "set") = pure false) (d2 : isSubtype (Value.type c) (Value.type "frozenset") = pure false) (d3 : (Value.type c == Value.type "dict") = false)
    (h : wpAny (model P w) A (pyIter (.ref l)) (fun a s' => wpAny (model P w) A (do
      let _ ← runValue (Code.builtin "set.update.loop" { pos := [Value.ref S, a] })
      pure ()) (fun a s' => wpAny (model P w) A ((fun __r => ret Value.none) a) R E s') E s') E s) : wpAny (model P w) A (Builtin.«set.__init__» ⟨[.ref S, .ref l], []⟩) R E s := by
  unfold Builtin.«set.__init__» noKeywords Builtin.Frozenset.updateFrom
  generalize hPI : pyIter = PI
  wp_walk
  subst hPI
  exact h
/-- set(xs), xs a list or a tuple of tuples of ints -/
theorem set_of_seq {l : Addr} {items : Array Value} (ks : List (Addr × List Int)) {Q : Value → Shared → Prop} (hh : A.handled = none) (hl : s.heap.IsList l items ∨ s.heap.IsTuple l items) (hit : items.toList = ks.map fun p => Value.ref p.1)
    (hk : ∀ p ∈ ks, IsT P w s.heap p.2 p.1) (few : ks.length ≤ 300) (hu : A.units + 3 < cLine)
    (h : ∀ (h' : Heap) (tk : Nat) L es ep t, SR P w h' s.heap.objs.size L es ep t → Got ks ks.length L → (∀ b o, s.heap.get? b = some o → h'.get? b = some o) → Q (.ref s.heap.objs.size) { s with heap := h', toks := tk }) :
    wpAny (model P w) A (call (.type "set") [.ref l]) Q E s := by
  have sz : items.size = ks.length := by rw [← Array.length_toList, hit, List.length_map]
  obtain ⟨c, tl, hmro⟩ := F.called_set.mro
  have c1 := F.called_set.made
  have c2 := F.called_set.sub
  refine wpAny_call (codeAny_of_tree ?_)
  show wpAny _ _ (callAny (.type "set") _) _ _ _
  refine wpAny_pure ⟨Code.quiet_builtin _ (by decide +kernel), codeAny_builtin F.entry_type_call ?_⟩
  rw [Around.under_plain (weight_type_call_type "set" [.ref l] []) rfl]
  have c3 := F.called_set.notType
  have c4 := F.called_set.canCreate
  have c5 := F.typeCall_set_1 (.ref l)
  repeat (any_goals (first | assumption | wp_step))
  refine codeAny_mono (code_set_led1 (.ref l) (E := E) (Q₁ := fun obj s₁ => obj = .ref s.heap.objs.size ∧ s₁ = { s with heap := s.heap.push (setO w) }) ⟨rfl, rfl⟩) fun r s₁ hr => ?_
  cases r with
  | error e => exact hr
  | ok fl =>
    cases fl with
    | ret obj =>
      obtain ⟨rfl, rfl⟩ := hr
      have at_S : (s.heap.push (setO w)).get? s.heap.objs.size = some (setO w) := Heap.get?_push_size _ rfl
      have ty_S : Shared.TypeIs { s with heap := s.heap.push (setO w) } (.ref s.heap.objs.size) "set" := ⟨_, at_S, rfl⟩
      have c6 := F.called_set.init.lookup
      have c7 := F.called_set.init.bind (.ref s.heap.objs.size)
      repeat (any_goals (first | assumption | wp_step))
      refine codeAny_mono (codeAny_call_builtin (R := wants (fun r s₂ => r = .none ∧ ∃ h' tk L es ep t, s₂ = { s with heap := h', toks := tk } ∧ SR P w h' s.heap.objs.size L es ep t ∧ Got ks ks.length L ∧
          (∀ b o, s.heap.get? b = some o → h'.get? b = some o)) E) F.called_set.init.plain F.entry_set_init (check_set_init_1 ty_S ?_)) fun r₂ s₂ hr₂ => ?_
      · rcases hl with hl | hl
        · obtain ⟨ol, hol, hcl, nl, hdl⟩ := hl
          obtain ⟨ocls, odict, odata, oslots⟩ := ol
          simp only at hcl hdl
          subst hcl; subst hdl
          have hol2 : (s.heap.push (setO w)).get? l = some { cls := .type "list", dict := odict, data := .seq items nl, slots := oslots } := Heap.get?_push_of_some _ hol
          have d1 := F.sub_list_set
          have d2 := F.sub_list_frozenset
          have d3 : (Value.type "list" == Value.type "dict") = false := by decide
          have hl1 : (s.heap.push (setO w)).IsList l items := ⟨_, hol2, rfl, nl, rfl⟩
          refine init_from at_S hol2 d1 d2 d3 ?_
          refine wpAny_pyIter_list hl1 ?_
          refine wpAny_bind (wpAny_runValue ?_)
          have lS : l < s.heap.objs.size := Heap.lt_size hol
          have hh3 : A.in1.in1.in1.handled = none := by simp [hh]
          have nI : l ≠ (s.heap.push (setO w)).objs.size := by
            rw [Heap.size_push]
            exact Nat.ne_of_lt (Nat.lt_succ_of_lt lS)
          have nf : s.heap.objs.size ∉ [(s.heap.push (setO w)).objs.size, l] := by
            rw [Heap.size_push]
            intro z
            rcases List.mem_cons.mp z with z | z
            · exact absurd z (Nat.ne_of_lt (Nat.lt_succ_self _))
            · exact absurd (List.mem_singleton.mp z) (Nat.ne_of_gt lS)
          have val : ∀ (i : Nat) (v : Value), items[i]? = some v → ∃ p, ks[i]? = some p ∧ v = .ref p.1 := fun i v hv => by
            rw [← Array.getElem?_toList, hit, List.getElem?_map] at hv
            obtain ⟨p, a1, a2⟩ := Option.map_eq_some_iff.mp hv
            exact ⟨p, a1, a2.symm⟩
          have none_of : ∀ b, s.heap.objs.size ≤ b → s.heap.get? b = none := fun b hb => by
            cases q : s.heap.get? b with
            | none => rfl
            | some o => exact absurd (Heap.lt_size q) (Nat.not_lt.mpr hb)
          refine fill_loop ((Walks.list hh3 _ l nI items).toS) s.heap.objs.size nf ks sz few val s.heap hk (none_of _ (Nat.le_refl _)) (fun b hb => none_of b (by
              rw [List.mem_singleton.mp hb, Heap.size_push]
              exact Nat.le_succ _)) hu items.size 0 _ (Nat.zero_add _)
            ⟨⟨_, Heap.get?_push_size _ rfl, rfl, rfl⟩, (hl1.push _)⟩ (fun b o e => Heap.get?_push_of_some _ (Heap.get?_push_of_some _ e)) ⟨[], #[], 0, _, SR.fresh (Heap.get?_push_of_some _ at_S), Got.zero ks⟩ ?_
          intro s' L es ep t m hS' q kp
          obtain ⟨h', g2, d', tk', os'⟩ := s'
          have eg : g2 = s.gens := m.gens
          have ed : d' = s.drawn := m.drawn
          have eo : os' = s.os := m.os
          subst eg; subst ed; subst eo
          show wpAny _ _ _ _ _ _
          refine wpAny_pure ?_
          show wpAny _ _ (ret Value.none) _ _ _
          exact wpAny_pure ⟨rfl, h', tk', L, es, ep, t, rfl, hS', sz ▸ q, kp⟩
        · obtain ⟨ol, hol, hcl, nl, hdl⟩ := hl
          obtain ⟨ocls, odict, odata, oslots⟩ := ol
          simp only at hcl hdl
          subst hcl; subst hdl
          have hol2 : (s.heap.push (setO w)).get? l = some { cls := .type "tuple", dict := odict, data := .seq items nl, slots := oslots } := Heap.get?_push_of_some _ hol
          have d1 := F.sub_tuple_set
          have d2 := F.sub_tuple_frozenset
          have d3 : (Value.type "tuple" == Value.type "dict") = false := by decide
          have hl1 : (s.heap.push (setO w)).IsTuple l items := ⟨_, hol2, rfl, nl, rfl⟩
          refine init_from at_S hol2 d1 d2 d3 ?_
          refine wpAny_pyIter_tuple hl1 ?_
          refine wpAny_bind (wpAny_runValue ?_)
          have lS : l < s.heap.objs.size := Heap.lt_size hol
          have hh3 : A.in1.in1.in1.handled = none := by simp [hh]
          have nI : l ≠ (s.heap.push (setO w)).objs.size := by
            rw [Heap.size_push]
            exact Nat.ne_of_lt (Nat.lt_succ_of_lt lS)
          have nf : s.heap.objs.size ∉ [(s.heap.push (setO w)).objs.size, l] := by
            rw [Heap.size_push]
            intro z
            rcases List.mem_cons.mp z with z | z
            · exact absurd z (Nat.ne_of_lt (Nat.lt_succ_self _))
            · exact absurd (List.mem_singleton.mp z) (Nat.ne_of_gt lS)
          have val : ∀ (i : Nat) (v : Value), items[i]? = some v → ∃ p, ks[i]? = some p ∧ v = .ref p.1 := fun i v hv => by
            rw [← Array.getElem?_toList, hit, List.getElem?_map] at hv
            obtain ⟨p, a1, a2⟩ := Option.map_eq_some_iff.mp hv
            exact ⟨p, a1, a2.symm⟩
          have none_of : ∀ b, s.heap.objs.size ≤ b → s.heap.get? b = none := fun b hb => by
            cases q : s.heap.get? b with
            | none => rfl
            | some o => exact absurd (Heap.lt_size q) (Nat.not_lt.mpr hb)
          refine fill_loop ((Walks.tuple hh3 _ l nI items).toS) s.heap.objs.size nf ks sz few val s.heap hk (none_of _ (Nat.le_refl _)) (fun b hb => none_of b (by
              rw [List.mem_singleton.mp hb, Heap.size_push]
              exact Nat.le_succ _)) hu items.size 0 _ (Nat.zero_add _)
            ⟨⟨_, Heap.get?_push_size _ rfl, rfl, rfl⟩, (hl1.push _)⟩ (fun b o e => Heap.get?_push_of_some _ (Heap.get?_push_of_some _ e)) ⟨[], #[], 0, _, SR.fresh (Heap.get?_push_of_some _ at_S), Got.zero ks⟩ ?_
          intro s' L es ep t m hS' q kp
          obtain ⟨h', g2, d', tk', os'⟩ := s'
          have eg : g2 = s.gens := m.gens
          have ed : d' = s.drawn := m.drawn
          have eo : os' = s.os := m.os
          subst eg; subst ed; subst eo
          show wpAny _ _ _ _ _ _
          refine wpAny_pure ?_
          show wpAny _ _ (ret Value.none) _ _ _
          exact wpAny_pure ⟨rfl, h', tk', L, es, ep, t, rfl, hS', sz ▸ q, kp⟩
      · cases r₂ with
        | error e => exact hr₂
        | ok fl₂ =>
          cases fl₂ with
          | ret r =>
            obtain ⟨rfl, h', tk, L, es, ep, t, rfl, hS', q, kp⟩ := hr₂
            repeat (any_goals (first | assumption | wp_step))
            exact h _ _ _ _ _ _ hS' q kp
          | _ => exact hr₂.elim
    | _ => exact hr.elim
end
end SG
/-! ==== SetG4 -/
set_option maxRecDepth 100000
set_option maxHeartbeats 4000000
/-! sorted of such a set, of a list of pairs; the rules over values. -/
namespace SG
open PySem PySem.Spec PyProof.Rows L2
abbrev Cell := Int × Int
/-- a place and the pair of ints that lies there -/
abbrev Row := Addr × Cell
def le2 (p q : Cell) : Bool := decide (p.1 < q.1 ∨ (p.1 = q.1 ∧ p.2 ≤ q.2))
def leR (p q : Row) : Bool := le2 p.2 q.2
def encR (p : Row) : PyData := .tuple [.int p.2.1, .int p.2.2]
def wide (p : Row) : Addr × List Int := (p.1, [p.2.1, p.2.2])
theorem leR_eq : PySem.W.dataLe false encR = leR := PySem.W.dataLe_ii (fun p : Row => p.2.1) (fun p : Row => p.2.2)
theorem leR_total : PySem.W.TotalLe leR := leR_eq ▸ PySem.W.sortLe_total _ false _
theorem enc_alike (l : List Row) : PySem.W.AllAlike (l.map encR) := PySem.W.AllAlike.of fun b b' => by
  show PySem.W.alikeAll [_, _] [_, _] = true
  simp [PySem.W.alikeAll, PySem.W.alike]
theorem enc_sortable (l : List Row) : PySem.W.Sortable (l.map encR) := PySem.W.Sortable.tuples fun b => ⟨_, _, rfl⟩
theorem enc_depth (b : Row) : (encR b).depth = 1 := by
  show PyData.depth (.tuple [_, _]) = 1
  simp [PyData.depth, PyData.depthAll]
theorem perm_out {α β : Type} (f : α → β) : ∀ {l k : List β}, l.Perm k → ∀ m : List α, k = m.map f → ∃ m' : List α, m'.Perm m ∧ l = m'.map f := by
  intro l k h
  induction h with
  | nil => intro m e; exact ⟨m, .refl _, e⟩
  | cons x _ ih =>
    intro m e
    cases m with
    | nil => cases e
    | cons y r =>
      rw [List.map_cons, List.cons.injEq] at e
      obtain ⟨m', p, e'⟩ := ih r e.2
      exact ⟨y :: m', p.cons y, by rw [List.map_cons, e.1, e']⟩
  | swap x y l =>
    intro m e
    match m, e with
    | a :: b :: r, e =>
      rw [List.map_cons, List.map_cons, List.cons.injEq, List.cons.injEq] at e
      exact ⟨b :: a :: r, .swap a b r, by rw [List.map_cons, List.map_cons, e.1, e.2.1, e.2.2]⟩
  | trans _ _ ih1 ih2 =>
    intro m e
    obtain ⟨m1, p1, e1⟩ := ih2 m e
    obtain ⟨m2, p2, e2⟩ := ih1 m1 e1
    exact ⟨m2, p2.trans p1, e2⟩
section
variable {P : Program} {w : World} {A : Around} {E : Value → Shared → Prop} {s : Shared}
theorem reads_int : ∀ {ks : List Int} {vs : List Value} {h : Heap}, IntsAre vs ks → ReadsAll h vs (ks.map .int) []
  | [], _, _, .nil => .nil
  | _ :: _, _, _, .cons _ t r => .cons (as := []) (.int _ _) (reads_int r)
theorem isT_reads {h : Heap} {p : Row} (x : IsT P w h [p.2.1, p.2.2] p.1) : Reads h (.ref p.1) (encR p) [] := by
  obtain ⟨o, items, n, ho, hc, hd, hi⟩ := x
  exact .tuple ho hc hd (reads_int (ks := [p.2.1, p.2.2]) (ints_of_items hi))
theorem each_refs {h : Heap} : ∀ (l : List Row), (∀ p ∈ l, IsT P w h [p.2.1, p.2.2] p.1) → PySem.W.EachIs (fun v p => ∃ as, Reads h v (encR p) as) (l.map fun p => Value.ref p.1) l
  | [], _ => .nil
  | p :: r, h => .cons ⟨[], isT_reads (h p List.mem_cons_self)⟩ (each_refs r fun q z => h q (List.mem_cons_of_mem _ z))
theorem each_refs0 {h : Heap} (a : Addr) : ∀ (l : List Row), (∀ p ∈ l, IsT P w h [p.2.1, p.2.2] p.1) → PySem.W.EachIs (fun v p => ∃ as, Reads h v (encR p) as ∧ a ∉ as) (l.map fun p => Value.ref p.1) l
  | [], _ => .nil
  | p :: r, h => .cons ⟨[], isT_reads (h p List.mem_cons_self), fun z => (nomatch z)⟩ (each_refs0 a r fun q z => h q (List.mem_cons_of_mem _ z))
theorem each_same : ∀ (l : List Row), PySem.W.EachIs (fun v p => v = Value.ref p.1) (l.map fun p => Value.ref p.1) l
  | [] => .nil
  | _ :: r => .cons rfl (each_same r)
theorem same_of : ∀ {vs : List Value} {l : List Row}, PySem.W.EachIs (fun v p => v = Value.ref p.1) vs l → vs = l.map fun p => Value.ref p.1
  | _, _, .nil => rfl
  | _, _, .cons e r => by rw [e, same_of r] <;> rfl
/-- sorted(the set) -/
theorem sorted_of_set {a : Addr} {L : List Row} {es : Array (Int × Value)} {ep : Nat} {t : SetTable} {Q : Value → Shared → Prop} (R : SR P w s.heap a (L.map wide) es ep t) (hh : A.handled = none) (hu : A.units + 8 < cLine)
    (hQ : ∀ s' p (c : Nat) (L' : List Row), (∀ b o, s.heap.get? b = some o → s'.heap.get? b = some o) → s'.gens = s.gens → s'.os = s.os → s.heap.objs.size ≤ p →
      s'.heap.get? p = some (seqObj "list" (L'.map fun q => Value.ref q.1).toArray c) → L'.Perm L → L'.Pairwise (fun q r => leR q r = true) → Q (.ref p) s') :
    wpAny (model P w) A (call (.builtin "sorted") [.ref a]) Q E s := by
  obtain ⟨o, ho, hex, hd⟩ := R.ob
  have sl := rows_len R.rows
  have few := R.few
  rw [List.length_map] at sl few
  refine Calls.call_function_entry kind_sorted plain_sorted entry_sorted (args_sorted1 _) ?_
  unfold Builtin.«sorted»
  refine wpAny_bind (m := checkCount "sorted" 1 1 _) (wpAny_pure ?_)
  refine wpAny_bind (collect_set (A := A.in1) hh ⟨o, ho, hex.1, hd⟩ R.fits (by unfold scanBound; omega) R.tab.up R.led fun s1 vs k1 hz g1 o1 pm => ?_)
  have e0 : es.toList.map (·.2) = L.map fun q => Value.ref q.1 := by
    rw [R.rows]
    show ((L.map wide).map _).map _ = _
    rw [List.map_map, List.map_map] <;> rfl
  rw [e0] at pm
  obtain ⟨L1, p1, rfl⟩ := perm_out (fun q : Row => Value.ref q.1) pm L rfl
  have l1 : L1.length = L.length := p1.length_eq
  refine wpAny_bind (wpAny_newList ?_ (by rw [List.length_map, sizeLine_eq]; omega))
  have at_l : (s1.heap.push (seqObj "list" (L1.map fun q => Value.ref q.1).toArray 0)).get? s1.heap.objs.size = some (seqObj "list" (L1.map fun q => Value.ref q.1).toArray 0) := Heap.get?_push_size _ rfl
  have tup : ∀ p ∈ L1, IsT P w (s1.heap.push (seqObj "list" (L1.map fun q => Value.ref q.1).toArray 0)) [p.2.1, p.2.2] p.1 := fun p hp =>
    isT_keep (R.tup (wide p) (List.mem_map_of_mem (p1.mem_iff.mp hp))) fun b u e => Heap.get?_push_of_some _ (k1 b u e)
  refine wpAny_bind (wpAny_holding (PySem.W.list_sort_data (s := { s1 with heap := s1.heap.push (seqObj "list" (L1.map fun q => Value.ref q.1).toArray 0) }) (R := fun v p => v = Value.ref p.1) (enc := encR) at_l (each_same L1)
    (each_refs0 _ L1 tup) (enc_alike L1) (enc_sortable L1) (by rw [sizeLine_eq]; omega) (fun b _ => by rw [enc_depth]; show A.units + 1 + 1 + 1 < cLine; omega) fun out hlen hout => ?_))
  have e2 := same_of hout
  obtain ⟨c, hc⟩ := sortedHeap_at (vs := L1.map fun q => Value.ref q.1) (out := List.toArray out) at_l
  rw [leR_eq] at e2
  rw [e2] at hc
  refine wpAny_pure ⟨_, rfl, hQ _ s1.heap.objs.size c _ (fun b u e => ?_) g1 o1 hz (by rw [e2]; exact hc) ((List.mergeSort_perm ..).trans p1) (PySem.W.sort_pairwise leR_total L1)⟩
  have q := k1 b u e
  have lt := Heap.lt_size q
  show (sortedHeap (s1.heap.push (seqObj "list" (L1.map fun q => Value.ref q.1).toArray 0)) s1.heap.objs.size (L1.map fun q => Value.ref q.1) (List.toArray out)).get? b = some u
  rw [sortedHeap_old (Nat.ne_of_lt lt) (by rw [size_push']; exact Nat.lt_succ_of_lt lt)]
  exact Heap.get?_push_of_some _ q
end
/-! ### the rules -/
/-- the set at a, its rows; its tuples are told apart -/
structure S0 (P : Program) (w : World) (h : Heap) (a : Addr) (L : List (Addr × List Int)) : Prop where
  ex : ∃ (es : Array (Int × Value)) (ep : Nat) (t : SetTable), (∃ o, h.get? a = some o ∧ o.ExactSet ∧ o.data = .set es ep t) ∧ es.toList = rowsOf P w L ∧ Tab t (L.map fun p => thash P w p.2) ∧ (L.map (·.2)).Nodup ∧ t.plain = true ∧
    (w.params.followText "set-order" = true ∨ t.led = true) ∧ L.length * 5 < t.mask * 3 ∧ L.length ≤ 300
def SetC (P : Program) (w : World) (a : Addr) (L : List Row) : HO := .ext fun h => S0 P w h a (L.map wide)
theorem SR.s0 {P : Program} {w : World} {h : Heap} {a : Addr} {L : List (Addr × List Int)} {es : Array (Int × Value)} {ep : Nat} {t : SetTable} (R : SR P w h a L es ep t) : S0 P w h a L := ⟨es, ep, t, R.ob, R.rows, R.tab, R.nd, R.plain, R.led, R.room, R.few⟩
theorem S0.sr {P : Program} {w : World} {h : Heap} {a : Addr} {L : List (Addr × List Int)} (R : S0 P w h a L) (ht : ∀ p ∈ L, IsT P w h p.2 p.1) : ∃ es ep t, SR P w h a L es ep t := by
  obtain ⟨es, ep, t, a1, a2, a3, a4, a5, a6, a7, a8⟩ := R.ex
  exact ⟨es, ep, t, a1, a2, a3, a4, ht, a5, a6, a7, a8⟩
theorem setC_ok {P : Program} {w : World} {H : Hp} {h : Heap} {a : Addr} {L : List Row} (R : S0 P w h a (L.map wide)) : ObjOk P w H h a (SetC P w a L) := by
  have ⟨es, ep, t, ⟨o, ho, r⟩, q⟩ := R.ex
  refine ⟨R, ⟨o, ho⟩, fun h1 h2 z k => ?_⟩
  have ⟨es', ep', t', ⟨o', ho', r'⟩, q'⟩ := S0.ex z
  exact ⟨es', ep', t', ⟨o', k o' ho', r'⟩, q'⟩
/-- at a a tuple of the two ints -/
def CellAt (K : PySem.W.Frag) (H : Hp) (p : Row) : Prop := SqT K H p.1 [.int p.2.1, .int p.2.2]
def refR (p : Row) : V := .ref p.1
section
variable {X : Cx}
/-- set(xs), xs a list of pairs -/
def rSet (K : PySem.W.Frag) (P : Program) (w : World) : List V → Hp → VK → Prop := fun xs H Q => ∃ (l : Addr) (ks : List Row), xs = [V.ref l] ∧ (SqL K H l (ks.map refR) ∨ SqT K H l (ks.map refR)) ∧ (∀ p ∈ ks, CellAt K H p) ∧ ks.length ≤ 300 ∧
  ∀ a L, H a = none → (∀ p ∈ L, p ∈ ks) → (∀ p ∈ ks, p.2 ∈ L.map (·.2)) → (L.map (·.2)).Nodup → Q (.ref a) (upd H a (SetC P w a L))
theorem wide_out : ∀ {ks : List Row} {L : List (Addr × List Int)}, (∀ p ∈ L, p ∈ ks.map wide) → ∃ L' : List Row, L = L'.map wide ∧ ∀ p ∈ L', p ∈ ks
  | _, [], _ => ⟨[], rfl, fun _ z => nomatch z⟩
  | ks, p :: r, h => by
    obtain ⟨L', e, z⟩ := wide_out (ks := ks) (L := r) fun q y => h q (List.mem_cons_of_mem _ y)
    obtain ⟨q, hq, rfl⟩ := List.mem_map.mp (h p List.mem_cons_self)
    exact ⟨q :: L', by rw [e] <;> rfl, fun y hy => (List.mem_cons.mp hy).elim (fun e => e ▸ hq) (z y)⟩
theorem wide_inj {c d : Cell} (h : ([c.1, c.2] : List Int) = [d.1, d.2]) : c = d := by
  injection h with h1 h2
  injection h2 with h2 _
  exact Prod.ext h1 h2
theorem mem_wide {c : Cell} {L : List Row} (h : ([c.1, c.2] : List Int) ∈ (L.map wide).map (·.2)) : c ∈ L.map (·.2) := by
  rw [List.map_map] at h
  obtain ⟨q, hq, e⟩ := List.mem_map.mp h
  exact wide_inj (c := q.2) e ▸ List.mem_map_of_mem (f := (·.2)) hq
theorem nd_wide {L : List Row} (h : ((L.map wide).map (·.2)).Nodup) : (L.map (·.2)).Nodup := by
  rw [List.map_map] at h
  exact List.pairwise_map.mpr ((List.pairwise_map.mp h).imp fun ne e => ne (by show [_, _] = [_, _]; rw [e]))
theorem wide_refs (ks : List Row) : ks.map refR = (ks.map wide).map fun p => V.ref p.1 := by
  rw [List.map_map] <;> rfl
theorem cr_set (hc : X.calm = true) (hu : X.A.units + 64 < cLine) : CallR X (.type "set") (rSet X.K X.prog X.w) := by
  intro pins s σ H xs us Q I r h
  obtain ⟨l, ks, rfl, hl, hk, few, q⟩ := h
  rw [Vals.ref1 r]
  rw [wide_refs] at hl
  have hn : H s.heap.objs.size = none := I.hok.fresh (Nat.le_refl _)
  obtain ⟨its, rv, pl⟩ : ∃ its : List Value, Vals ((ks.map wide).map fun p => V.ref p.1) its ∧ (s.heap.IsList l its.toArray ∨ s.heap.IsTuple l its.toArray) := by
    rcases hl with hl | hl
    · obtain ⟨its, rv, pl, hz⟩ := I.list hl
      exact ⟨its, rv, .inl pl.isList⟩
    · obtain ⟨its, rv, pl, hz⟩ := I.tuple hl
      exact ⟨its, rv, .inr pl⟩
  refine set_of_seq (P := X.prog) (w := X.w) (ks.map wide) (I.ok.hd hc) pl (by simpa using refs_of_vals rv) (fun p hp => ?_) (by rw [List.length_map]; exact few) (by omega) fun h' tk L es ep t R g k => ?_
  · obtain ⟨y, hy, rfl⟩ := List.mem_map.mp hp
    exact I.isT (hk y hy)
  · obtain ⟨L', rfl, sub⟩ := wide_out (ks := ks) (L := L) fun p hp => List.mem_of_mem_take (g.sub p hp)
    refine ⟨.ref s.heap.objs.size, upd H s.heap.objs.size (SetC X.prog X.w s.heap.objs.size L'), I.laid (t' := tk) k (Nat.le_refl _) (setC_ok R.s0), rfl, q _ L' hn sub (fun p hp => mem_wide (g.all (wide p) ?_)) (nd_wide R.nd)⟩
    rw [List.take_length]
    exact List.mem_map_of_mem hp
/-- sorted(set) -/
def rSortS (K : PySem.W.Frag) (P : Program) (w : World) : List V → Hp → VK → Prop := fun vs H Q => ∃ (a : Addr) (L : List Row), vs = [V.ref a] ∧ H a = some (SetC P w a L) ∧ (∀ p ∈ L, CellAt K H p) ∧
  ∀ (L' : List Row) (p : Addr), L'.Perm L → L'.Pairwise (fun q r => le2 q.2 r.2 = true) → H p = none → Q (.ref p) (upd H p (.lst (L'.map refR)))
theorem vals_refR : ∀ ks : List Row, Vals (ks.map refR) (ks.map fun p => Value.ref p.1)
  | [] => .nil
  | _ :: ks => .cons rfl (vals_refR ks)
theorem cr_sortS (hc : X.calm = true) (hu : X.A.units + 64 < cLine) : CallR X (.builtin "sorted") (rSortS X.K X.prog X.w) := by
  intro pins s σ H vs us Q I r h
  obtain ⟨a, L, rfl, ha, hk, q⟩ := h
  have R0 : S0 X.prog X.w s.heap a (L.map wide) := (I.hok a _ ha).1
  obtain ⟨es, ep, t, R⟩ := R0.sr fun p hp => by
    obtain ⟨y, hy, rfl⟩ := List.mem_map.mp hp
    exact I.isT (hk y hy)
  rw [Vals.ref1 r]
  refine sorted_of_set R (I.ok.hd hc) (by omega) fun s' p c L' k g o hp hg pm pw => ?_
  have few := R.few
  rw [List.length_map] at few
  have hlen : (L'.map refR).length ≤ sizeLine := by rw [List.length_map, pm.length_eq, sizeLine_eq]; omega
  have J : Inv X pins σ (upd H p (.lst (L'.map refR))) s' :=
    I.call' (ch := []) o (Un.laid k hp (I.hok.fresh hp)) (I.hok.laid k hp ⟨hlen, _, c, vals_refR L', hg⟩) (by rw [g]; exact I.bare) (fun _ z => nomatch z)
  exact ⟨.ref p, _, J, rfl, q L' p pm pw (I.hok.fresh hp)⟩
/-- sorted(xs), xs a list of pairs -/
def rSortL (K : PySem.W.Frag) : List V → Hp → VK → Prop := fun vs H Q => ∃ (l : Addr) (ks : List Row), vs = [V.ref l] ∧ SqL K H l (ks.map refR) ∧ (∀ p ∈ ks, CellAt K H p) ∧
  ∀ (L' : List Row) (p : Addr), L'.Perm ks → L'.Pairwise (fun q r => le2 q.2 r.2 = true) → H p = none → Q (.ref p) (upd H p (.lst (L'.map refR)))
theorem cr_sortL (hu : X.A.units + 64 < cLine) : CallR X (.builtin "sorted") (rSortL X.K) := by
  intro pins s σ H vs us Q I r h
  obtain ⟨l, ks, rfl, hl, hk, q⟩ := h
  rw [Vals.ref1 r]
  rw [wide_refs] at hl
  obtain ⟨its, rv, pl, hz⟩ := I.list hl
  have e0 : its = ks.map fun p => Value.ref p.1 := (refs_of_vals rv).trans (by rw [List.map_map] <;> rfl)
  subst e0
  refine PySem.W.sorted_data (R := fun v p => v = Value.ref p.1) (enc := encR) pl.isList (each_same ks) (each_refs (P := X.prog) (w := X.w) ks fun p hp => I.isT (hk p hp)) (enc_alike ks) (enc_sortable ks) (by simpa using hz) (fun b _ => by rw [enc_depth]; omega) fun out hlen hout => ?_
  have e2 := same_of hout
  rw [leR_eq] at e2
  obtain ⟨c, hc⟩ := PyProof.Rows.sortedAll_at s.heap (ks.map fun p => Value.ref p.1) (List.toArray out)
  rw [e2] at hc ⊢
  have pm : (ks.mergeSort leR).Perm ks := List.mergeSort_perm ..
  exact ⟨.ref _, upd H (s.heap.objs.size + 1) (.lst ((ks.mergeSort leR).map refR)), I.laid (t' := s.toks) (fun _ _ => PyProof.Rows.sortedAll_old) (Nat.le_succ _) ⟨by rw [List.length_map, pm.length_eq]; simpa using hz, _, c, vals_refR _, hc⟩, rfl, q _ _ pm (PySem.W.sort_pairwise leR_total ks) (I.hok.fresh (Nat.le_succ _))⟩
end
end SG
/-! ==== DL1 -/
set_option maxRecDepth 100000
set_option maxHeartbeats 4000000
/-! The data level: what a reading does, told of data alone. -/
namespace DL
open PySem PySem.Spec PyProof.Rows L2 SG
def Gr (H H' : Hp) : Prop := ∀ a o, H a = some o → H' a = some o
theorem Gr.refl (H : Hp) : Gr H H := fun _ _ h => h
theorem Gr.trans {H H1 H2 : Hp} (a : Gr H H1) (b : Gr H1 H2) : Gr H H2 := fun c o h => b c o (a c o h)
theorem Gr.back {H H1 : Hp} (g : Gr H H1) {a : Addr} (h : H1 a = none) : H a = none := by
  cases e : H a with
  | none => rfl
  | some o => rw [g a o e] at h; cases h
theorem Gr.new {H : Hp} {p : Addr} (o : HO) (h : H p = none) : Gr H (upd H p o) := fun a u e => by
  rw [upd_ne (ne_of_none e h)]
  exact e
/-- what is never changed here: all but lists and dicts of cells -/
def still : HO → Bool
  | .lst _ => false
  | .dT _ => false
  | _ => true
/-- what is still stays -/
def Kp (H H' : Hp) : Prop := ∀ a o, H a = some o → still o = true → H' a = some o
theorem Gr.kp {H H' : Hp} (g : Gr H H') : Kp H H' := fun a o e _ => g a o e
theorem Kp.trans {H H1 H2 : Hp} (a : Kp H H1) (b : Kp H1 H2) : Kp H H2 := fun c o h s => b c o (a c o h s) s
theorem Kp.upd {H : Hp} {p : Addr} {o u : HO} (h : H p = some u) (n : still u = false) : Kp H (upd H p o) := fun a x e s => by
  rw [upd_ne (fun z => by rw [z, h] at e; cases e; rw [n] at s; cases s)]
  exact e
/-! data that never change -/
mutual
inductive Im (H : Hp) : V → PyData → Prop
  | non : Im H .non .none
  | bl (b : Bool) : Im H (.bl b) (.bool b)
  | int (i : Int) : Im H (.int i) (.int i)
  | str (x : Str) : Im H (.str x) (.str x)
  | tup {a : Addr} {vs : List V} {ds : List PyData} : H a = some (.tup vs) → Ims H vs ds → Im H (.ref a) (.tuple ds)
inductive Ims (H : Hp) : List V → List PyData → Prop
  | nil : Ims H [] []
  | cons {v : V} {vs : List V} {d : PyData} {ds : List PyData} : Im H v d → Ims H vs ds → Ims H (v :: vs) (d :: ds)
end
mutual
theorem Im.kp {H H' : Hp} (k : Kp H H') : ∀ {v : V} {d : PyData}, Im H v d → Im H' v d
  | _, _, .non => .non
  | _, _, .bl b => .bl b
  | _, _, .int i => .int i
  | _, _, .str x => .str x
  | _, _, .tup h r => .tup (k _ _ h rfl) (Ims.kp k r)
theorem Ims.kp {H H' : Hp} (k : Kp H H') : ∀ {vs : List V} {ds : List PyData}, Ims H vs ds → Ims H' vs ds
  | _, _, .nil => .nil
  | _, _, .cons h r => .cons (Im.kp k h) (Ims.kp k r)
end
mutual
theorem Im.dp {K : PySem.W.Frag} {H : Hp} : ∀ {v : V} {d : PyData}, Im H v d → Dp K H v d
  | _, _, .non => .non
  | _, _, .bl b => .bl b
  | _, _, .int i => .int i
  | _, _, .str x => .str x
  | _, _, .tup h r => .tup (SqT.of h) (Ims.dp r)
theorem Ims.dp {K : PySem.W.Frag} {H : Hp} : ∀ {vs : List V} {ds : List PyData}, Ims H vs ds → DpAll K H vs ds
  | _, _, .nil => .nil
  | _, _, .cons h r => .cons (Im.dp h) (Ims.dp r)
end
theorem Im.int_v {H : Hp} {v : V} {i : Int} (h : Im H v (.int i)) : v = .int i := by cases h; rfl
theorem Im.bl_v {H : Hp} {v : V} {b : Bool} (h : Im H v (.bool b)) : v = .bl b := by cases h; rfl
theorem Im.str_v {H : Hp} {v : V} {x : Str} (h : Im H v (.str x)) : v = .str x := by cases h; rfl
theorem Im.tup_v {H : Hp} {v : V} {ds : List PyData} (h : Im H v (.tuple ds)) : ∃ a vs, v = .ref a ∧ H a = some (.tup vs) ∧ Ims H vs ds := by cases h with | tup a b => exact ⟨_, _, rfl, a, b⟩
theorem Ims.len {H : Hp} : ∀ {vs : List V} {ds : List PyData}, Ims H vs ds → vs.length = ds.length
  | _, _, .nil => rfl
  | _, _, .cons _ r => congrArg (· + 1) r.len
theorem Ims.at_ {H : Hp} : ∀ {vs : List V} {ds : List PyData} {i : Nat} {d : PyData}, Ims H vs ds → ds[i]? = some d → ∃ v, vs[i]? = some v ∧ Im H v d
  | _, _, _, _, .nil, h => by simp at h
  | _, _, 0, _, .cons a _, h => ⟨_, rfl, (Option.some.inj h) ▸ a⟩
  | _, _, i + 1, _, .cons _ r, h => Ims.at_ (i := i) r h
theorem Ims.app {H : Hp} : ∀ {vs ws : List V} {ds es : List PyData}, Ims H vs ds → Ims H ws es → Ims H (vs ++ ws) (ds ++ es)
  | _, _, _, _, .nil, r => r
  | _, _, _, _, .cons a r, q => .cons a (r.app q)
theorem Ims.drop {H : Hp} : ∀ {vs : List V} {ds : List PyData} (n : Nat), Ims H vs ds → Ims H (vs.drop n) (ds.drop n)
  | _, _, 0, r => r
  | _, _, _ + 1, .nil => .nil
  | _, _, n + 1, .cons _ r => r.drop n
theorem Ims.take {H : Hp} : ∀ {vs : List V} {ds : List PyData} (n : Nat), Ims H vs ds → Ims H (vs.take n) (ds.take n)
  | _, _, 0, _ => .nil
  | _, _, _ + 1, .nil => .nil
  | _, _, n + 1, .cons a r => .cons a (r.take n)
/-- what a slot holds: data; a list of the def's own; a list that is read; a dict of cells, the def's own; an object -/
inductive SV where
  | im (d : PyData) | own (ds : List PyData) | ro (ds : List PyData) | dic (ks : List Cell) | rf (a : Addr) | ob (P : V → Hp → Prop) (m : ∀ (v : V) (H H' : Hp), Kp H H' → P v H → P v H')
def cellK (c : Cell) : List Key := [Sum.inl c.1, Sum.inl c.2]
def SH (B H : Hp) (v : V) : SV → Prop
  | .im d => Im H v d
  | .own ds => ∃ a vs, v = .ref a ∧ B a = none ∧ H a = some (.lst vs) ∧ Ims H vs ds
  | .ro ds => ∃ a vs, v = .ref a ∧ H a = some (.lst vs) ∧ Ims H vs ds
  | .dic ks => ∃ a kvs, v = .ref a ∧ B a = none ∧ H a = some (.dT kvs) ∧ kvs.map (·.1) = ks.map cellK
  | .rf a => v = .ref a
  | .ob P _ => P v H
theorem SH.gr {B H H' : Hp} (g : Gr H H') : ∀ {v : V} {x : SV}, SH B H v x → SH B H' v x
  | _, .im _, h => Im.kp g.kp h
  | _, .own _, ⟨a, vs, e, b, h, r⟩ => ⟨a, vs, e, b, g _ _ h, r.kp g.kp⟩
  | _, .ro _, ⟨a, vs, e, h, r⟩ => ⟨a, vs, e, g _ _ h, r.kp g.kp⟩
  | _, .dic _, ⟨a, kvs, e, b, h, r⟩ => ⟨a, kvs, e, b, g _ _ h, r⟩
  | _, .rf _, h => h
  | _, .ob _ m, h => m _ _ _ g.kp h
theorem SH.back {B B' H : Hp} (g : Gr B B') : ∀ {v : V} {x : SV}, SH B' H v x → SH B H v x
  | _, .im _, h => h
  | _, .own _, ⟨a, vs, e, b, h⟩ => ⟨a, vs, e, g.back b, h⟩
  | _, .ro _, h => h
  | _, .dic _, ⟨a, kvs, e, b, h⟩ => ⟨a, kvs, e, g.back b, h⟩
  | _, .rf _, h => h
  | _, .ob _ _, h => h
/-- as an argument: a list is but read -/
def SV.arg : SV → SV
  | .own ds => .ro ds
  | x => x
def SV.mut : SV → Bool
  | .own _ => true
  | .dic _ => true
  | _ => false
def SV.lsty : SV → Bool
  | .own _ => true
  | .dic _ => true
  | .ro _ => true
  | _ => false
theorem SH.lst {B H : Hp} {v : V} {x : SV} (h : SH B H v x) (m : x.lsty = true) : ∃ a o, v = .ref a ∧ H a = some o ∧ still o = false := by
  cases x with
  | own ds => obtain ⟨a, vs, e, _, q, _⟩ := h; exact ⟨a, _, e, q, rfl⟩
  | ro ds => obtain ⟨a, vs, e, q, _⟩ := h; exact ⟨a, _, e, q, rfl⟩
  | dic ks => obtain ⟨a, vs, e, _, q, _⟩ := h; exact ⟨a, _, e, q, rfl⟩
  | _ => cases m
theorem SH.mutB {B H : Hp} {v : V} {x : SV} (h : SH B H v x) (m : x.mut = true) : ∃ a o, v = .ref a ∧ B a = none ∧ H a = some o ∧ still o = false := by
  cases x with
  | own ds => obtain ⟨a, vs, e, b, q, _⟩ := h; exact ⟨a, _, e, b, q, rfl⟩
  | dic ks => obtain ⟨a, vs, e, b, q, _⟩ := h; exact ⟨a, _, e, b, q, rfl⟩
  | _ => cases m
theorem mut_lsty {x : SV} (h : x.mut = true) : x.lsty = true := by cases x <;> first | rfl | cases h
abbrev Rho := List (Option SV)
/-- the slots as they are: B what stood ahead -/
structure St (B : Hp) (σ : L2.St) (H : Hp) (ρ : Rho) : Prop where
  gr : Gr B H
  len : σ.length = ρ.length
  at_ : ∀ (i : Nat) (x : SV), ρ[i]? = some (some x) → ∃ v, σ[i]? = some (some v) ∧ SH B H v x
  apart : ∀ (i j : Nat) (x y : SV) (v : V), i ≠ j → ρ[i]? = some (some x) → x.mut = true → ρ[j]? = some (some y) → y.lsty = true → σ[i]? = some (some v) → σ[j]? ≠ some (some v)
theorem St.grow {B H H' : Hp} {σ : L2.St} {ρ : Rho} (S : St B σ H ρ) (g : Gr H H') : St B σ H' ρ :=
  ⟨S.gr.trans g, S.len, fun i x e => by obtain ⟨v, a, b⟩ := S.at_ i x e; exact ⟨v, a, b.gr g⟩, S.apart⟩
theorem St.back {B B' H : Hp} {σ : L2.St} {ρ : Rho} (S : St B' σ H ρ) (g : Gr B B') : St B σ H ρ :=
  ⟨g.trans S.gr, S.len, fun i x e => by obtain ⟨v, a, b⟩ := S.at_ i x e; exact ⟨v, a, b.back g⟩, S.apart⟩
/-- a slot is given a value that no slot holds as a list -/
theorem St.set {B H : Hp} {σ : L2.St} {ρ : Rho} (S : St B σ H ρ) (i : Nat) {v : V} {x : SV} (h : SH B H v x)
    (n : x.lsty = true → ∀ (j : Nat) (y : SV), ρ[j]? = some (some y) → y.lsty = true → σ[j]? ≠ some (some v)) : St B (σ.set i (some v)) H (ρ.set i (some x)) := by
  have li : ∀ {y : SV}, (ρ.set i (some x))[i]? = some (some y) → i < ρ.length ∧ x = y := fun {y} e => by
    rw [List.getElem?_set] at e
    simp only [if_true] at e
    by_cases c : i < ρ.length
    · rw [if_pos c] at e; cases e; exact ⟨c, rfl⟩
    · rw [if_neg c] at e; cases e
  have si : ∀ {w : V}, (σ.set i (some v))[i]? = some (some w) → v = w := fun {w} e => by
    rw [List.getElem?_set] at e
    simp only [if_true] at e
    by_cases c : i < σ.length
    · rw [if_pos c] at e; cases e; rfl
    · rw [if_neg c] at e; cases e
  refine ⟨S.gr, by rw [List.length_set, List.length_set]; exact S.len, fun j y e => ?_, fun j k y z w hjk ey my ez lz hw => ?_⟩
  · by_cases c : i = j
    · subst c
      obtain ⟨l, rfl⟩ := li e
      exact ⟨v, by rw [List.getElem?_set_self (S.len ▸ l)], h⟩
    · rw [List.getElem?_set_ne c] at e ⊢
      exact S.at_ j y e
  · by_cases c : i = j
    · subst c
      obtain ⟨_, rfl⟩ := li ey
      have ev := si hw
      subst ev
      rw [List.getElem?_set_ne hjk] at ez ⊢
      exact n (mut_lsty my) k z ez lz
    · by_cases d : i = k
      · subst d
        obtain ⟨_, rfl⟩ := li ez
        rw [List.getElem?_set_ne c] at ey hw
        intro q
        have ev := si q
        subst ev
        exact n lz j y ey (mut_lsty my) hw
      · rw [List.getElem?_set_ne c] at ey hw
        rw [List.getElem?_set_ne d] at ez ⊢
        exact S.apart j k y z w hjk ey my ez lz hw
/-- data in a slot -/
theorem St.setIm {B H : Hp} {σ : L2.St} {ρ : Rho} (S : St B σ H ρ) (i : Nat) {v : V} {d : PyData} (h : Im H v d) : St B (σ.set i (some v)) H (ρ.set i (some (.im d))) := S.set i (x := .im d) h fun z => nomatch z
/-- something new in a slot -/
theorem St.setNew {B H H1 : Hp} {σ : L2.St} {ρ : Rho} (S : St B σ H ρ) (g : Gr H H1) (i : Nat) {v : V} {x : SV} (h : SH H H1 v x) (nr : ∀ ds, x ≠ .ro ds) : St B (σ.set i (some v)) H1 (ρ.set i (some x)) := by
  refine (S.grow g).set i (h.back S.gr) fun l j y e ly q => ?_
  obtain ⟨w, a, b⟩ := S.at_ j y e
  rw [q] at a
  cases a
  obtain ⟨a2, o2, e2, h2, _⟩ := b.lst ly
  have m : x.mut = true := by
    cases x with
    | ro ds => exact absurd rfl (nr ds)
    | own _ => rfl
    | dic _ => rfl
    | _ => cases l
  obtain ⟨a3, o3, e3, b3, _⟩ := h.mutB m
  rw [e2] at e3
  cases e3
  rw [h2] at b3
  cases b3
/-- a slot is emptied -/
theorem St.clear {B H : Hp} {σ : L2.St} {ρ : Rho} (S : St B σ H ρ) (i : Nat) : St B (σ.set i none) H (ρ.set i none) := by
  have no : ∀ {j : Nat} {y : SV}, (ρ.set i none)[j]? = some (some y) → i ≠ j ∧ ρ[j]? = some (some y) := fun {j y} e => by
    by_cases c : i = j
    · subst c
      rw [List.getElem?_set] at e
      simp only [if_true] at e
      by_cases l : i < ρ.length
      · rw [if_pos l] at e; cases e
      · rw [if_neg l] at e; cases e
    · rw [List.getElem?_set_ne c] at e
      exact ⟨c, e⟩
  refine ⟨S.gr, by rw [List.length_set, List.length_set]; exact S.len, fun j y e => ?_, fun j k y z w hjk ey my ez lz hw => ?_⟩
  · obtain ⟨c, e⟩ := no e
    rw [List.getElem?_set_ne c]
    exact S.at_ j y e
  · obtain ⟨c, ey⟩ := no ey
    obtain ⟨d, ez⟩ := no ez
    rw [List.getElem?_set_ne c] at hw
    rw [List.getElem?_set_ne d]
    exact S.apart j k y z w hjk ey my ez lz hw
/-- the address of a list or dict of the def's own -/
def MutAt (σ : L2.St) (ρ : Rho) (a : Addr) : Prop := ∃ (i : Nat) (x : SV), ρ[i]? = some (some x) ∧ x.mut = true ∧ σ[i]? = some (some (.ref a))
open Classical in
noncomputable def hideM (σ : L2.St) (ρ : Rho) (H : Hp) : Hp := fun a => if MutAt σ ρ a then none else H a
theorem hideM_at {σ : L2.St} {ρ : Rho} {H : Hp} {a : Addr} (h : MutAt σ ρ a) : hideM σ ρ H a = none := by unfold hideM; exact if_pos h
theorem hideM_ne {σ : L2.St} {ρ : Rho} {H : Hp} {a : Addr} (h : ¬ MutAt σ ρ a) : hideM σ ρ H a = H a := by unfold hideM; exact if_neg h
/-- all but the def's own lists and dicts is held fast -/
theorem St.hide {B H : Hp} {σ : L2.St} {ρ : Rho} (S : St B σ H ρ) : Gr B (hideM σ ρ H) ∧ St (hideM σ ρ H) σ H ρ := by
  refine ⟨fun a o e => ?_, ⟨fun a o e => ?_, S.len, fun i x e => ?_, S.apart⟩⟩
  · rw [hideM_ne]
    · exact S.gr a o e
    · rintro ⟨i, x, h1, h2, h3⟩
      obtain ⟨v, a1, a2⟩ := S.at_ i x h1
      obtain ⟨b, _, e1, e2, _⟩ := a2.mutB h2
      rw [h3] at a1
      cases a1
      cases e1
      rw [e] at e2
      cases e2
  · by_cases c : MutAt σ ρ a
    · rw [hideM_at c] at e; cases e
    · rw [hideM_ne c] at e; exact e
  · obtain ⟨v, a1, a2⟩ := S.at_ i x e
    refine ⟨v, a1, ?_⟩
    cases x with
    | own ds =>
      obtain ⟨a, vs, e1, _, r⟩ := a2
      subst e1
      exact ⟨a, vs, rfl, hideM_at ⟨i, _, e, rfl, a1⟩, r⟩
    | dic ks =>
      obtain ⟨a, vs, e1, _, r⟩ := a2
      subst e1
      exact ⟨a, vs, rfl, hideM_at ⟨i, _, e, rfl, a1⟩, r⟩
    | im d => exact a2
    | ro ds => exact a2
    | rf a => exact a2
    | ob P m => exact a2
/-- an own list or dict is changed in place -/
theorem St.change {B H : Hp} {σ : L2.St} {ρ : Rho} (S : St B σ H ρ) (i : Nat) {x y : SV} {a : Addr} {o : HO} (ex : ρ[i]? = some (some x)) (mx : x.mut = true) (ev : σ[i]? = some (some (.ref a))) (hy : SH B (upd H a o) (.ref a) y) (my : y.mut = true) :
    St B σ (upd H a o) (ρ.set i (some y)) := by
  obtain ⟨v, a1, a2⟩ := S.at_ i x ex
  obtain ⟨b, u, e1, nb, hb, nt⟩ := a2.mutB mx
  rw [ev] at a1
  cases a1
  cases e1
  have kp : Kp H (upd H a o) := .upd hb nt
  have li : i < ρ.length := (List.getElem?_eq_some_iff.mp ex).1
  refine ⟨fun c w e => ?_, by rw [List.length_set]; exact S.len, fun j z e => ?_, fun j k z w q hjk ez mz ew lw hq => ?_⟩
  · rw [upd_ne (fun z => by rw [z, nb] at e; cases e)]
    exact S.gr c w e
  · by_cases c : i = j
    · subst c
      rw [List.getElem?_set_self li] at e
      cases e
      exact ⟨_, ev, hy⟩
    · rw [List.getElem?_set_ne c] at e
      obtain ⟨v, b1, b2⟩ := S.at_ j z e
      refine ⟨v, b1, ?_⟩
      have ne : z.lsty = true → v ≠ .ref a := fun l q => S.apart i j x z (.ref a) c ex mx e l ev (q ▸ b1)
      cases z with
      | im d => exact Im.kp kp b2
      | rf a => exact b2
      | ob P m => exact m _ _ _ kp b2
      | own ds =>
        obtain ⟨a', vs, rfl, n, h, r⟩ := b2
        exact ⟨a', vs, rfl, n, (upd_ne fun q : a' = a => ne rfl (congrArg V.ref q)).trans h, r.kp kp⟩
      | ro ds =>
        obtain ⟨a', vs, rfl, h, r⟩ := b2
        exact ⟨a', vs, rfl, (upd_ne fun q : a' = a => ne rfl (congrArg V.ref q)).trans h, r.kp kp⟩
      | dic ks =>
        obtain ⟨a', vs, rfl, n, h, r⟩ := b2
        exact ⟨a', vs, rfl, n, (upd_ne fun q : a' = a => ne rfl (congrArg V.ref q)).trans h, r⟩
  · have pre : ∀ {j : Nat} {z : SV}, (ρ.set i (some y))[j]? = some (some z) → ∃ z', ρ[j]? = some (some z') ∧ (z.mut = true → z'.mut = true) ∧ (z.lsty = true → z'.lsty = true) := fun {j z} e => by
      by_cases c : i = j
      · subst c
        exact ⟨x, ex, fun _ => mx, fun _ => mut_lsty mx⟩
      · rw [List.getElem?_set_ne c] at e
        exact ⟨z, e, id, id⟩
    obtain ⟨z', c1, c2, _⟩ := pre ez
    obtain ⟨w', d1, _, d2⟩ := pre ew
    exact S.apart j k z' w' q hjk c1 (c2 mz) d1 (d2 lw) hq
end DL
/-! ==== DL2 -/
set_option maxRecDepth 100000
set_option maxHeartbeats 4000000
/-! Expressions at the data level. -/
namespace DL
open PySem PySem.Spec PyProof.Rows L2 SG
def EvS (te : TE) (ρ : Rho) (x : SV) : Prop := ∀ (B : Hp) (σ : L2.St) (H : Hp) (Q : VK), St B σ H ρ → (∀ v H1, Gr H H1 → SH H H1 v x → Q v H1) → te σ H Q
def EvT (tt : TT) (ρ : Rho) (b : Bool) : Prop := ∀ (B : Hp) (σ : L2.St) (H : Hp) (Q : Bool → Hp → Prop), St B σ H ρ → (∀ H1, Gr H H1 → Q b H1) → tt σ H Q
def EvA (ta : TA) (ρ : Rho) (xs : List SV) : Prop := ∀ (B : Hp) (σ : L2.St) (H : Hp) (Q : List V → Hp → Prop), St B σ H ρ → (∀ vs H1, Gr H H1 → Paired (SH H H1) vs xs → Q vs H1) → ta σ H Q
/-- an operation of two values; a call of values -/
def OpS (r : R2) (x y z : SV) : Prop := ∀ (H : Hp) (v w : V) (Q : VK), SH H H v x.arg → SH H H w y.arg → (∀ u H1, Gr H H1 → SH H H1 u z → Q u H1) → r v w H Q
def UnS (r : V → Hp → VK → Prop) (x z : SV) : Prop := ∀ (H : Hp) (v : V) (Q : VK), SH H H v x.arg → (∀ u H1, Gr H H1 → SH H H1 u z → Q u H1) → r v H Q
def CallS (r : List V → Hp → VK → Prop) (xs : List SV) (z : SV) : Prop := ∀ (H : Hp) (vs : List V) (Q : VK), Paired (SH H H) vs (xs.map SV.arg) → (∀ u H1, Gr H H1 → SH H H1 u z → Q u H1) → r vs H Q
/-- no dict among the values (a dict is asked by its own rules) -/
def SV.plain : SV → Bool
  | .dic _ => false
  | _ => true
theorem SH.asArg {B H : Hp} {v : V} : ∀ {x : SV}, x.plain = true → SH B H v x → SH H H v x.arg
  | .im _, _, h => h
  | .own _, _, ⟨a, vs, e, _, h, r⟩ => ⟨a, vs, e, h, r⟩
  | .ro _, _, h => h
  | .rf _, _, h => h
  | .ob _ _, _, h => h
  | .dic _, p, _ => nomatch p
theorem Paired.mono {α β : Type} {F G : α → β → Prop} (m : ∀ a b, F a b → G a b) : ∀ {l : List α} {k : List β}, Paired F l k → Paired G l k
  | _, _, .nil => .nil
  | _, _, .cons a r => .cons (m _ _ a) (Paired.mono m r)
theorem asArgs {B H : Hp} : ∀ {vs : List V} {xs : List SV}, xs.all SV.plain = true → Paired (SH B H) vs xs → Paired (SH H H) vs (xs.map SV.arg)
  | _, _, _, .nil => .nil
  | _, _, p, .cons a r => by
    rw [List.all_cons, Bool.and_eq_true] at p
    exact .cons (a.asArg p.1) (asArgs p.2 r)
theorem ims_of {B H : Hp} : ∀ {vs : List V} {ds : List PyData}, Paired (SH B H) vs (ds.map SV.im) → Ims H vs ds
  | _, [], .nil => .nil
  | _, _ :: _, .cons a r => .cons a (ims_of r)
variable {ρ : Rho} {te ta tb : TE} {x y z : SV}
/-! ### names, constants -/
theorem es_var {i : Nat} (h : ρ[i]? = some (some x)) (p : x.plain = true) : EvS (tVar i) ρ x.arg := fun B σ H Q S q => by
  obtain ⟨v, a, b⟩ := S.at_ i x h
  refine ⟨v, a, q v H (.refl H) ?_⟩
  cases x with
  | dic _ => cases p
  | im d => exact b
  | rf a => exact b
  | ob P m => exact b
  | ro ds => exact b
  | own ds => obtain ⟨c, vs, e, _, r⟩ := b; exact ⟨c, vs, e, r⟩
theorem es_im {i : Nat} {d : PyData} (h : ρ[i]? = some (some (.im d))) : EvS (tVar i) ρ (.im d) := es_var h rfl
theorem es_int {n : Int} : EvS (tC (.int n)) ρ (.im (.int n)) := fun _ _ H _ _ q => q _ H (.refl H) (.int n)
theorem es_bl {b : Bool} : EvS (tC (.bl b)) ρ (.im (.bool b)) := fun _ _ H _ _ q => q _ H (.refl H) (.bl b)
theorem es_str {s : Str} : EvS (tC (.str s)) ρ (.im (.str s)) := fun _ _ H _ _ q => q _ H (.refl H) (.str s)
theorem es_non : EvS (tC .non) ρ (.im .none) := fun _ _ H _ _ q => q _ H (.refl H) .non
theorem es_ob {v : V} {P : V → Hp → Prop} {m} (h : ∀ H, P v H) : EvS (tC v) ρ (.ob P m) := fun _ _ H _ _ q => q _ H (.refl H) (h H)
theorem es_ref {a : Addr} : EvS (tC (.ref a)) ρ (.rf a) := fun _ _ H _ _ q => q _ H (.refl H) rfl
/-! ### operations -/
theorem es_op {r : R2} (ha : EvS ta ρ x) (hb : EvS tb ρ y) (hr : OpS r x y z) (px : x.plain = true := by rfl) (py : y.plain = true := by rfl) : EvS (tOp r ta tb) ρ z := fun B σ H Q S q =>
  ha B σ H _ S fun v H1 g1 h1 => hb B σ H1 _ (S.grow g1) fun w H2 g2 h2 => hr H2 v w Q ((h1.gr g2).asArg px) (h2.asArg py) fun u H3 g3 h3 => q u H3 ((g1.trans g2).trans g3) (h3.back (g1.trans g2))
theorem es_un {r : V → Hp → VK → Prop} (ha : EvS ta ρ x) (hr : UnS r x z) (px : x.plain = true := by rfl) : EvS (tUn r ta) ρ z := fun B σ H Q S q =>
  ha B σ H _ S fun v H1 g1 h1 => hr H1 v Q (h1.asArg px) fun u H3 g3 h3 => q u H3 (g1.trans g3) (h3.back g1)
theorem ea_nil : EvA tNil ρ [] := fun _ _ H _ _ q => q [] H (.refl H) .nil
theorem ea_cons {t : TA} {xs : List SV} (ha : EvS te ρ x) (hr : EvA t ρ xs) : EvA (tCons te t) ρ (x :: xs) := fun B σ H Q S q =>
  ha B σ H _ S fun v H1 g1 h1 => hr B σ H1 _ (S.grow g1) fun vs H2 g2 h2 => q (v :: vs) H2 (g1.trans g2) (.cons (h1.gr g2) (Paired.mono (fun _ _ z => SH.back g1 z) h2))
theorem es_cb {r : List V → Hp → VK → Prop} {t : TA} {xs : List SV} (ha : EvA t ρ xs) (hr : CallS r xs z) (p : xs.all SV.plain = true := by rfl) : EvS (tCB r t) ρ z := fun B σ H Q S q =>
  ha B σ H _ S fun vs H1 g1 h1 => hr H1 vs Q (asArgs p h1) fun u H2 g2 h2 => q u H2 (g1.trans g2) (h2.back g1)
theorem es_tup {t : TA} {ds : List PyData} (ha : EvA t ρ (ds.map SV.im)) (hl : ds.length ≤ 1000 := by exact Nat.le_of_ble_eq_true rfl) : EvS (tTup t) ρ (.im (.tuple ds)) := fun B σ H Q S q =>
  ha B σ H _ S fun vs H1 g1 h1 => by
    have r := ims_of h1
    refine ⟨by rw [r.len, sizeLine_eq]; omega, fun p hp => ?_⟩
    have g2 := Gr.new (.tup vs) hp
    exact q _ _ (g1.trans g2) (.tup upd_same (r.kp g2.kp))
theorem es_lst {t : TA} {ds : List PyData} (ha : EvA t ρ (ds.map SV.im)) (hl : ds.length ≤ 1000 := by exact Nat.le_of_ble_eq_true rfl) : EvS (tLst t) ρ (.own ds) := fun B σ H Q S q =>
  ha B σ H _ S fun vs H1 g1 h1 => by
    have r := ims_of h1
    refine ⟨by rw [r.len, sizeLine_eq]; omega, fun p hp => ?_⟩
    have g2 := Gr.new (.lst vs) hp
    exact q _ _ (g1.trans g2) ⟨p, vs, rfl, g1.back hp, upd_same, r.kp g2.kp⟩
/-! ### tests -/
variable {tt tu : TT} {a b : Bool}
theorem et_test (h : EvS te ρ (.im (.bool b))) : EvT (tTest te) ρ b := fun B σ H Q S q => h B σ H _ S fun v H1 g r => ⟨b, r.bl_v, q H1 g⟩
theorem et_B (h : EvS te ρ (.im (.bool b))) : EvT (tB te) ρ b := fun B σ H Q S q => h B σ H _ S fun v H1 g r => ⟨b, r.bl_v, q H1 g⟩
theorem et_and (h1 : EvT tt ρ a) (h2 : a = true → EvT tu ρ b) : EvT (tAnd tt tu) ρ (a && b) := fun B σ H Q S q => h1 B σ H _ S fun H1 g1 => by
  cases a with
  | true => exact iteT (h2 rfl B σ H1 _ (S.grow g1) fun H2 g2 => q H2 (g1.trans g2))
  | false => exact iteF (q H1 g1)
theorem et_or (h1 : EvT tt ρ a) (h2 : a = false → EvT tu ρ b) : EvT (tOr tt tu) ρ (a || b) := fun B σ H Q S q => h1 B σ H _ S fun H1 g1 => by
  cases a with
  | true => exact iteT (q H1 g1)
  | false => exact iteF (h2 rfl B σ H1 _ (S.grow g1) fun H2 g2 => q H2 (g1.trans g2))
theorem et_not (h : EvT tt ρ a) : EvT (tNot tt) ρ (!a) := fun B σ H Q S q => h B σ H _ S q
theorem et_yes : EvT tYes ρ true := fun B σ H Q S q => q H (.refl H)
theorem es_andV (h1 : EvS ta ρ (.im (.bool a))) (h2 : a = true → EvS tb ρ (.im (.bool b))) : EvS (tAndV ta tb) ρ (.im (.bool (a && b))) := fun B σ H Q S q => h1 B σ H _ S fun v H1 g1 r => by
  refine ⟨a, r.bl_v, ?_⟩
  cases a with
  | true => exact iteT (h2 rfl B σ H1 _ (S.grow g1) fun w H2 g2 r2 => q w H2 (g1.trans g2) r2)
  | false => exact iteF (q _ H1 g1 (.bl false))
theorem es_orV (h1 : EvS ta ρ (.im (.bool a))) (h2 : a = false → EvS tb ρ (.im (.bool b))) : EvS (tOrV ta tb) ρ (.im (.bool (a || b))) := fun B σ H Q S q => h1 B σ H _ S fun v H1 g1 r => by
  refine ⟨a, r.bl_v, ?_⟩
  cases a with
  | true => exact iteT (q _ H1 g1 (.bl true))
  | false => exact iteF (h2 rfl B σ H1 _ (S.grow g1) fun w H2 g2 r2 => q w H2 (g1.trans g2) r2)
theorem es_notV (h : EvS ta ρ (.im (.bool a))) : EvS (tNotV ta) ρ (.im (.bool (!a))) := fun B σ H Q S q => h B σ H _ S fun v H1 g r => ⟨a, r.bl_v, q _ H1 g (.bl _)⟩
def isNone : PyData → Bool
  | .none => true
  | _ => false
theorem isN_of {H : Hp} {v : V} {d : PyData} (r : Im H v d) : decide (v = V.non) = isNone d := by
  cases r <;> first | rfl | exact decide_eq_false (fun z => nomatch z)
theorem es_isN {d : PyData} (h : EvS ta ρ (.im d)) : EvS (tIsN ta) ρ (.im (.bool (isNone d))) := fun B σ H Q S q => h B σ H _ S fun v H1 g r => by
  rw [isN_of r]
  exact q _ H1 g (.bl _)
theorem es_notN {d : PyData} (h : EvS ta ρ (.im d)) : EvS (tNotN ta) ρ (.im (.bool (!isNone d))) := fun B σ H Q S q => h B σ H _ S fun v H1 g r => by
  rw [isN_of r]
  exact q _ H1 g (.bl _)
/-! ### the operators, as one reading each -/
def xAdd (K : PySem.W.Frag) : R2 := fun x y H Q => (rI0 (fun i j => .int (i + j)) x y H Q ∨ (fun x y H Q => ∃ i j, x = .str i ∧ y = .str j ∧ i.length + j.length ≤ sizeLine ∧ Q (.str (i ++ j)) H : R2) x y H Q) ∨ (rCat x y H Q ∨ rCatA K x y H Q)
theorem o_add {X : Cx} : OpR X (binaryOp .Add) (xAdd X.K) := OpR.or (OpR.or op_add op_add_str) (OpR.or op_cat op_catA)
def xIn (K : PySem.W.Frag) (neg : Bool) : R2 := fun x y H Q => ∃ d ds, Dp K H x d ∧ Dp K H y (.tuple ds) ∧ SeqAt.shaped d = true ∧ SeqAt.shaped (.tuple ds) = true ∧ Q (.bl (if neg then !ds.any fun z => PyData.eqv z d else ds.any fun z => PyData.eqv z d)) H
theorem o_in {X : Cx} (hu : X.A.units + 65 < cLine) : OpR X (compareOp .In) (xIn X.K false) := by
  intro pins s σ H x y v u Q I rx ry h
  obtain ⟨d, ds, hd, he, sd, se, q⟩ := h
  obtain ⟨as, r1⟩ := Dp.reads I d x v hd rx
  obtain ⟨bs, r2⟩ := Dp.reads I (.tuple ds) y u he ry
  exact SeqAt.in_tuple_reads r2 r1 (SeqAt.canLay_of_shaped se) (SeqAt.canLay_of_shaped sd) (room_in_shaped sd hu) ⟨.bl _, H, I, rfl, q⟩
theorem o_notIn {X : Cx} (hu : X.A.units + 65 < cLine) : OpR X (compareOp .NotIn) (xIn X.K true) := by
  intro pins s σ H x y v u Q I rx ry h
  obtain ⟨d, ds, hd, he, sd, se, q⟩ := h
  obtain ⟨as, r1⟩ := Dp.reads I d x v hd rx
  obtain ⟨bs, r2⟩ := Dp.reads I (.tuple ds) y u he ry
  exact SeqAt.notIn_tuple_reads r2 r1 (SeqAt.canLay_of_shaped se) (SeqAt.canLay_of_shaped sd) (room_in_shaped sd hu) ⟨.bl _, H, I, rfl, q⟩
variable {K : PySem.W.Frag}
theorem done {H : Hp} {Q : VK} {v : V} {z : SV} (q : ∀ u H1, Gr H H1 → SH H H1 u z → Q u H1) (h : SH H H v z) : Q v H := q v H (.refl H) h
theorem op_I0 {g : Int → Int → V} {f : Int → Int → PyData} (hg : ∀ i j H, Im H (g i j) (f i j)) {i j : Int} : OpS (rI0 g) (.im (.int i)) (.im (.int j)) (.im (f i j)) := fun H v w Q h1 h2 q => ⟨i, j, h1.int_v, h2.int_v, done q (hg i j H)⟩
theorem op_IC {C : Int → Int → Prop} {g : Int → Int → V} {f : Int → Int → PyData} (hg : ∀ i j H, Im H (g i j) (f i j)) {i j : Int} (c : C i j) : OpS (rI C g) (.im (.int i)) (.im (.int j)) (.im (f i j)) := fun H v w Q h1 h2 q => ⟨i, j, h1.int_v, h2.int_v, c, done q (hg i j H)⟩
theorem s_add {i j : Int} : OpS (xAdd K) (.im (.int i)) (.im (.int j)) (.im (.int (i + j))) := fun H v w Q h1 h2 q => .inl (.inl (op_I0 (f := fun i j => .int (i + j)) (fun _ _ _ => .int _) H v w Q h1 h2 q))
theorem s_addS {s t : Str} (h : s.length + t.length ≤ 100000) : OpS (xAdd K) (.im (.str s)) (.im (.str t)) (.im (.str (s ++ t))) := fun H v w Q h1 h2 q => .inl (.inr ⟨s, t, h1.str_v, h2.str_v, by rw [sizeLine_eq]; omega, done q (.str _)⟩)
theorem s_addL {xs ys : List PyData} {x y : SV} (ex : x.arg = .ro xs) (ey : y.arg = .ro ys) (h : xs.length + ys.length ≤ 100000) : OpS (xAdd K) x y (.own (xs ++ ys)) := fun H v w Q h1 h2 q => by
  rw [ex] at h1
  rw [ey] at h2
  obtain ⟨a, vs, rfl, ha, ra⟩ := h1
  obtain ⟨b, ws, rfl, hb, rb⟩ := h2
  refine .inr (.inl ⟨a, b, vs, ws, rfl, rfl, ha, hb, by rw [ra.len, rb.len, sizeLine_eq]; omega, fun p hp => ?_⟩)
  have g := Gr.new (.lst (vs ++ ws)) hp
  exact q _ _ g ⟨p, _, rfl, hp, upd_same, (ra.kp g.kp).app (rb.kp g.kp)⟩
theorem s_addT {xs ys : List PyData} (h : xs.length + ys.length ≤ 100000) : OpS (xAdd K) (.im (.tuple xs)) (.im (.tuple ys)) (.im (.tuple (xs ++ ys))) := fun H v w Q h1 h2 q => by
  obtain ⟨a, vs, rfl, ha, ra⟩ := h1.tup_v
  obtain ⟨b, ws, rfl, hb, rb⟩ := h2.tup_v
  refine .inr (.inr ⟨a, b, vs, ws, rfl, rfl, SqT.of ha, SqT.of hb, by rw [ra.len, rb.len, sizeLine_eq]; omega, fun e => ?_, fun n e => ?_, fun n m p hp => ?_⟩)
  · subst e
    cases ra
    exact done q (.tup hb rb)
  · subst e
    cases rb
    refine done q ?_
    rw [List.append_nil]
    exact .tup ha ra
  · have g := Gr.new (.tup (vs ++ ws)) hp
    exact q _ _ g (.tup upd_same ((ra.kp g.kp).app (rb.kp g.kp)))
theorem s_sub {i j : Int} : OpS (rI0 fun i j => .int (i - j)) (.im (.int i)) (.im (.int j)) (.im (.int (i - j))) := op_I0 (f := fun i j => .int (i - j)) fun _ _ _ => .int _
theorem s_mul {i j : Int} (c : CMul i j) : OpS (rI CMul fun i j => .int (i * j)) (.im (.int i)) (.im (.int j)) (.im (.int (i * j))) := op_IC (f := fun i j => .int (i * j)) (fun _ _ _ => .int _) c
theorem s_mod {i j : Int} (c : 0 < j) : OpS (rI (fun _ j => 0 < j) fun i j => .int (i % j)) (.im (.int i)) (.im (.int j)) (.im (.int (i % j))) := op_IC (f := fun i j => .int (i % j)) (fun _ _ _ => .int _) c
theorem s_div {i j : Int} (c : CDivW i j) : OpS (rI CDivW fun i j => .int (i / j)) (.im (.int i)) (.im (.int j)) (.im (.int (i / j))) := op_IC (f := fun i j => .int (i / j)) (fun _ _ _ => .int _) c
theorem s_pow {i j : Int} (c : CPow i j) : OpS (rI CPow fun i j => .int (i ^ j.toNat)) (.im (.int i)) (.im (.int j)) (.im (.int (i ^ j.toNat))) := op_IC (f := fun i j => .int (i ^ j.toNat)) (fun _ _ _ => .int _) c
theorem s_lt {i j : Int} : OpS (rI0 fun i j => .bl (decide (i < j))) (.im (.int i)) (.im (.int j)) (.im (.bool (decide (i < j)))) := op_I0 (f := fun i j => .bool (decide (i < j))) fun _ _ _ => .bl _
theorem s_le {i j : Int} : OpS (rI0 fun i j => .bl (decide (i ≤ j))) (.im (.int i)) (.im (.int j)) (.im (.bool (decide (i ≤ j)))) := op_I0 (f := fun i j => .bool (decide (i ≤ j))) fun _ _ _ => .bl _
theorem s_gt {i j : Int} : OpS (rI0 fun i j => .bl (decide (j < i))) (.im (.int i)) (.im (.int j)) (.im (.bool (decide (j < i)))) := op_I0 (f := fun i j => .bool (decide (j < i))) fun _ _ _ => .bl _
theorem s_ge {i j : Int} : OpS (rI0 fun i j => .bl (decide (j ≤ i))) (.im (.int i)) (.im (.int j)) (.im (.bool (decide (j ≤ i)))) := op_I0 (f := fun i j => .bool (decide (j ≤ i))) fun _ _ _ => .bl _
theorem s_neg {i : Int} : UnS (rU fun i => .int (-i)) (.im (.int i)) (.im (.int (-i))) := fun H v Q h q => ⟨i, h.int_v, done q (.int _)⟩
/-- the data of a value that is compared -/
def SV.dat : SV → PyData
  | .im d => d
  | .own ds => .list ds
  | .ro ds => .list ds
  | _ => .none
def SV.isDat : SV → Bool
  | .im _ => true
  | .own _ => true
  | .ro _ => true
  | _ => false
theorem SH.dp {H : Hp} {v : V} : ∀ {x : SV}, x.isDat = true → SH H H v x.arg → Dp K H v x.dat
  | .im _, _, h => Im.dp h
  | .own _, _, h => by obtain ⟨a, vs, rfl, e, r⟩ := h; exact .lst (SqL.of e) r.dp
  | .ro _, _, h => by obtain ⟨a, vs, rfl, e, r⟩ := h; exact .lst (SqL.of e) r.dp
  | .dic _, p, _ => nomatch p
  | .rf _, p, _ => nomatch p
  | .ob _ _, p, _ => nomatch p
theorem s_eq {x y : SV} (hx : x.isDat = true) (hy : y.isDat = true) (sx : SeqAt.shaped x.dat = true) (sy : SeqAt.shaped y.dat = true) : OpS (rEqD K) x y (.im (.bool (PyData.eqv x.dat y.dat))) := fun H v w Q h1 h2 q => ⟨_, _, h1.dp hx, h2.dp hy, sx, sy, done q (.bl _)⟩
theorem s_ne {x y : SV} (hx : x.isDat = true) (hy : y.isDat = true) (sx : SeqAt.shaped x.dat = true) (sy : SeqAt.shaped y.dat = true) : OpS (rNeD K) x y (.im (.bool (!PyData.eqv x.dat y.dat))) := fun H v w Q h1 h2 q => ⟨_, _, h1.dp hx, h2.dp hy, sx, sy, done q (.bl _)⟩
theorem s_in {d : PyData} {ds : List PyData} (sd : SeqAt.shaped d = true) (se : SeqAt.shaped (.tuple ds) = true) : OpS (xIn K false) (.im d) (.im (.tuple ds)) (.im (.bool (ds.any fun z => PyData.eqv z d))) := fun H v w Q h1 h2 q => ⟨d, ds, Im.dp h1, Im.dp h2, sd, se, done q (.bl _)⟩
theorem s_notIn {d : PyData} {ds : List PyData} (sd : SeqAt.shaped d = true) (se : SeqAt.shaped (.tuple ds) = true) : OpS (xIn K true) (.im d) (.im (.tuple ds)) (.im (.bool (!ds.any fun z => PyData.eqv z d))) := fun H v w Q h1 h2 q => ⟨d, ds, Im.dp h1, Im.dp h2, sd, se, done q (.bl _)⟩
theorem dpAll_strs {H : Hp} : ∀ l : List Str, DpAll K H (l.map V.str) (l.map PyData.str)
  | [] => .nil
  | x :: r => .cons (.str x) (dpAll_strs r)
/-- in a written tuple of texts -/
theorem s_inW {d : PyData} {a : Addr} {l : List Str} (hw : ∀ H, SqT K H a (l.map V.str)) (sd : SeqAt.shaped d = true) (se : SeqAt.shaped (.tuple (l.map PyData.str)) = true) : OpS (xIn K false) (.im d) (.rf a) (.im (.bool ((l.map PyData.str).any fun z => PyData.eqv z d))) := fun H v w Q h1 h2 q => by
  cases h2
  exact ⟨d, _, Im.dp h1, .tup (hw H) (dpAll_strs l), sd, se, done q (.bl _)⟩
theorem s_notInW {d : PyData} {a : Addr} {l : List Str} (hw : ∀ H, SqT K H a (l.map V.str)) (sd : SeqAt.shaped d = true) (se : SeqAt.shaped (.tuple (l.map PyData.str)) = true) : OpS (xIn K true) (.im d) (.rf a) (.im (.bool (!(l.map PyData.str).any fun z => PyData.eqv z d))) := fun H v w Q h1 h2 q => by
  cases h2
  exact ⟨d, _, Im.dp h1, .tup (hw H) (dpAll_strs l), sd, se, done q (.bl _)⟩
theorem s_inC {c : Nat} {s : Str} : OpS rInS (.im (.str ⟨#[c]⟩)) (.im (.str s)) (.im (.bool (decide (c ∈ s.cps.toList)))) := fun H v w Q h1 h2 q => ⟨c, s, h1.str_v, h2.str_v, done q (.bl _)⟩
theorem s_notInC {c : Nat} {s : Str} : OpS rNotInS (.im (.str ⟨#[c]⟩)) (.im (.str s)) (.im (.bool (!decide (c ∈ s.cps.toList)))) := fun H v w Q h1 h2 q => ⟨c, s, h1.str_v, h2.str_v, done q (.bl _)⟩
/-! ### places -/
theorem Ims.atI {H : Hp} {vs : List V} {ds : List PyData} (r : Ims H vs ds) {i : Int} {d : PyData} (h : atI ds i = some d) : ∃ v, L2.atI vs i = some v ∧ Im H v d := by
  unfold L2.atI at h ⊢
  rw [r.len]
  obtain ⟨j, e, h⟩ := Option.bind_eq_some_iff.mp h
  obtain ⟨v, a, b⟩ := r.at_ h
  exact ⟨v, by rw [e]; exact a, b⟩
theorem s_ixT {ds : List PyData} {i : Int} {d : PyData} (h : atI ds i = some d) : OpS (rIx K) (.im (.tuple ds)) (.im (.int i)) (.im d) := fun H v w Q h1 h2 q => by
  obtain ⟨a, vs, rfl, ha, r⟩ := h1.tup_v
  obtain ⟨u, hu, iu⟩ := r.atI h
  exact .inr (.inl ⟨a, vs, i, u, rfl, h2.int_v, SqT.of ha, hu, done q iu⟩)
theorem s_ixL {ds : List PyData} {x : SV} (ex : x.arg = .ro ds) {i : Int} {d : PyData} (h : atI ds i = some d) : OpS (rIx K) x (.im (.int i)) (.im d) := fun H v w Q h1 h2 q => by
  rw [ex] at h1
  obtain ⟨a, vs, rfl, ha, r⟩ := h1
  obtain ⟨u, hu, iu⟩ := r.atI h
  exact .inl ⟨a, vs, i, u, rfl, h2.int_v, SqL.of ha, hu, done q iu⟩
theorem s_ixS {s : Str} {i : Int} {c : Nat} (hl : s.length ≤ 100000) (h : atI s.cps.toList i = some c) : OpS (rIx K) (.im (.str s)) (.im (.int i)) (.im (.str ⟨#[c]⟩)) := fun H v w Q h1 h2 q =>
  .inr (.inr ⟨s, i, c, h1.str_v, h2.int_v, by rw [sizeLine_eq]; omega, h, done q (.str _)⟩)
end DL
/-! ==== DL3 -/
set_option maxRecDepth 100000
set_option maxHeartbeats 4000000
/-! Calls, comprehensions, statements, defs at the data level. -/
namespace DL
open PySem PySem.Spec PyProof.Rows L2 SG
/-! ### cells and shapes as data -/
abbrev Shape := List Cell × Bool
def cD (c : Cell) : PyData := .tuple [.int c.1, .int c.2]
def csD (cs : List Cell) : PyData := .tuple (cs.map cD)
def shD (s : Shape) : PyData := .tuple [csD s.1, .bool s.2]
theorem cD_lay (c : Cell) : (cD c).canLay0 = true := by simp [cD, PyData.canLay0, PyData.canLayAll0]
theorem cD_depth (c : Cell) : (cD c).depth = 1 := by simp [cD, PyData.depth, PyData.depthAll]
theorem cDs_lay : ∀ cs : List Cell, PyData.canLayAll0 (cs.map cD) = true
  | [] => by simp [PyData.canLayAll0]
  | c :: cs => by simp [PyData.canLayAll0, cD_lay c, cDs_lay cs]
theorem cDs_depth : ∀ cs : List Cell, PyData.depthAll (cs.map cD) ≤ 1
  | [] => by simp [PyData.depthAll]
  | c :: cs => by
    have := cDs_depth cs
    simp only [List.map_cons, PyData.depthAll, cD_depth]
    omega
theorem cD_shaped (c : Cell) : SeqAt.shaped (cD c) = true := by simp [SeqAt.shaped, cD_lay, cD_depth]
theorem csD_shaped (cs : List Cell) : SeqAt.shaped (csD cs) = true := by
  have := cDs_depth cs
  simp only [SeqAt.shaped, csD, PyData.canLay0, cDs_lay, PyData.depth, Bool.true_and, decide_eq_true_eq]
  omega
theorem shD_shaped (s : Shape) : SeqAt.shaped (shD s) = true := by
  have := cDs_depth s.1
  simp only [SeqAt.shaped, shD, csD, PyData.canLay0, PyData.canLayAll0, cDs_lay, PyData.depth, PyData.depthAll, Bool.true_and, Bool.and_true, decide_eq_true_eq]
  omega
theorem int_shaped (i : Int) : SeqAt.shaped (.int i) = true := by simp [SeqAt.shaped, PyData.canLay0, PyData.depth]
theorem bool_shaped (b : Bool) : SeqAt.shaped (.bool b) = true := by simp [SeqAt.shaped, PyData.canLay0, PyData.depth]
theorem cD_eqv (c d : Cell) : PyData.eqv (cD c) (cD d) = decide (c = d) := by
  have e : (c = d) ↔ (c.1 = d.1 ∧ c.2 = d.2) := Prod.ext_iff
  simp only [cD, PyData.eqv, PyData.eqvAll, Bool.and_true]
  rw [Bool.eq_iff_iff, Bool.and_eq_true, beq_iff_eq, beq_iff_eq, decide_eq_true_iff, e]
theorem cDs_eqv : ∀ cs ds : List Cell, PyData.eqvAll (cs.map cD) (ds.map cD) = decide (cs = ds)
  | [], [] => by simp [PyData.eqvAll]
  | [], _ :: _ => by simp [PyData.eqvAll]
  | _ :: _, [] => by simp [PyData.eqvAll]
  | c :: cs, d :: ds => by
    simp only [List.map_cons, PyData.eqvAll, cD_eqv, cDs_eqv cs ds]
    rw [Bool.eq_iff_iff, Bool.and_eq_true, decide_eq_true_iff, decide_eq_true_iff, decide_eq_true_iff, List.cons.injEq]
theorem csD_eqv (cs ds : List Cell) : PyData.eqv (csD cs) (csD ds) = decide (cs = ds) := by
  simp only [csD, PyData.eqv]
  exact cDs_eqv cs ds
theorem shD_eqv (s t : Shape) : PyData.eqv (shD s) (shD t) = decide (s = t) := by
  have e : (s = t) ↔ (s.1 = t.1 ∧ s.2 = t.2) := Prod.ext_iff
  simp only [shD, PyData.eqv, PyData.eqvAll, csD_eqv, Bool.and_true]
  rw [Bool.eq_iff_iff, Bool.and_eq_true, decide_eq_true_iff, decide_eq_true_iff, e, beq_iff_eq]
theorem any_cell (cs : List Cell) (c : Cell) : ((cs.map cD).any fun z => PyData.eqv z (cD c)) = decide (c ∈ cs) := by
  rw [Bool.eq_iff_iff, List.any_map, List.any_eq_true, decide_eq_true_iff]
  constructor
  · rintro ⟨d, hd, e⟩
    have e' : PyData.eqv (cD d) (cD c) = true := e
    rw [cD_eqv, decide_eq_true_iff] at e'
    exact e' ▸ hd
  · intro h
    refine ⟨c, h, ?_⟩
    show PyData.eqv (cD c) (cD c) = true
    rw [cD_eqv, decide_eq_true_iff]
theorem Im.cell {H : Hp} {v : V} {c : Cell} (h : Im H v (cD c)) : ∃ a, v = .ref a ∧ H a = some (.tup [.int c.1, .int c.2]) := by
  obtain ⟨a, vs, rfl, e, r⟩ := h.tup_v
  cases r with
  | cons r1 r2 =>
    cases r2 with
    | cons r3 r4 =>
      cases r4
      rw [r1.int_v, r3.int_v] at e
      exact ⟨a, rfl, e⟩
theorem cell_im {H : Hp} {a : Addr} {c : Cell} (h : H a = some (.tup [.int c.1, .int c.2])) : Im H (.ref a) (cD c) := .tup h (.cons (.int _) (.cons (.int _) .nil))
theorem Ims.rows {H : Hp} : ∀ {vs : List V} {cs : List Cell}, Ims H vs (cs.map cD) → ∃ ks : List SG.Row, vs = ks.map refR ∧ ks.map (·.2) = cs ∧ ∀ p ∈ ks, H p.1 = some (.tup [.int p.2.1, .int p.2.2])
  | _, [], .nil => ⟨[], rfl, rfl, fun _ z => nomatch z⟩
  | _, c :: cs, .cons a r => by
    obtain ⟨ks, rfl, e, k⟩ := r.rows
    obtain ⟨b, rfl, hb⟩ := a.cell
    exact ⟨(b, c) :: ks, rfl, by rw [List.map_cons, e], fun p hp => (List.mem_cons.mp hp).elim (fun z => by rw [z]; exact hb) (k p)⟩
theorem rows_ims {H : Hp} : ∀ ks : List SG.Row, (∀ p ∈ ks, H p.1 = some (.tup [.int p.2.1, .int p.2.2])) → Ims H (ks.map refR) ((ks.map (·.2)).map cD)
  | [], _ => .nil
  | p :: r, h => .cons (cell_im (h p List.mem_cons_self)) (rows_ims r fun q z => h q (List.mem_cons_of_mem _ z))
/-! ### strictly rising lists -/
def lt2 (p q : Cell) : Prop := p.1 < q.1 ∨ (p.1 = q.1 ∧ p.2 < q.2)
instance (p q : Cell) : Decidable (lt2 p q) := by unfold lt2; infer_instance
theorem lt2_irrefl (p : Cell) : ¬ lt2 p p := by unfold lt2; omega
theorem lt2_trans {p q r : Cell} (a : lt2 p q) (b : lt2 q r) : lt2 p r := by unfold lt2 at *; omega
theorem le2_lt {p q : Cell} (h : le2 p q = true) (n : p ≠ q) : lt2 p q := by
  have e : (p = q) ↔ (p.1 = q.1 ∧ p.2 = q.2) := Prod.ext_iff
  have h' := of_decide_eq_true h
  have n' : ¬ (p.1 = q.1 ∧ p.2 = q.2) := fun z => n (e.2 z)
  unfold lt2
  omega
abbrev Rising (l : List Cell) : Prop := l.Pairwise lt2
theorem rising_one : ∀ {l k : List Cell}, Rising l → Rising k → (∀ c, c ∈ l ↔ c ∈ k) → l = k
  | [], [], _, _, _ => rfl
  | [], c :: _, _, _, h => absurd ((h c).2 List.mem_cons_self) (fun z => nomatch z)
  | c :: _, [], _, _, h => absurd ((h c).1 List.mem_cons_self) (fun z => nomatch z)
  | a :: l, b :: k, hl, hk, h => by
    obtain ⟨hl1, hl2⟩ := List.pairwise_cons.mp hl
    obtain ⟨hk1, hk2⟩ := List.pairwise_cons.mp hk
    have e : a = b := by
      rcases List.mem_cons.mp ((h a).1 List.mem_cons_self) with z | z
      · exact z
      · rcases List.mem_cons.mp ((h b).2 List.mem_cons_self) with y | y
        · exact y.symm
        · exact absurd (lt2_trans (hk1 a z) (hl1 b y)) (lt2_irrefl b)
    subst e
    rw [rising_one hl2 hk2 fun c => ?_]
    constructor
    · intro z
      rcases List.mem_cons.mp ((h c).1 (List.mem_cons_of_mem _ z)) with y | y
      · exact absurd (y ▸ hl1 c z) (lt2_irrefl a)
      · exact y
    · intro z
      rcases List.mem_cons.mp ((h c).2 (List.mem_cons_of_mem _ z)) with y | y
      · exact absurd (y ▸ hk1 c z) (lt2_irrefl a)
      · exact y
def ins (c : Cell) : List Cell → List Cell
  | [] => [c]
  | d :: l => if c = d then d :: l else if lt2 c d then c :: d :: l else d :: ins c l
/-- the cells, each once, rising -/
def rise : List Cell → List Cell
  | [] => []
  | c :: l => ins c (rise l)
theorem mem_ins {c x : Cell} : ∀ {l : List Cell}, x ∈ ins c l ↔ x = c ∨ x ∈ l
  | [] => by simp [ins]
  | d :: l => by
    unfold ins
    by_cases e : c = d
    · rw [if_pos e]; subst e; simp
    · rw [if_neg e]
      by_cases f : lt2 c d
      · rw [if_pos f, List.mem_cons]
      · rw [if_neg f, List.mem_cons, mem_ins, List.mem_cons]
        constructor <;> rintro (h | h | h) <;> simp [h]
theorem ins_rising {c : Cell} : ∀ {l : List Cell}, Rising l → Rising (ins c l)
  | [], _ => List.pairwise_singleton lt2 c
  | d :: l, h => by
    obtain ⟨h1, h2⟩ := List.pairwise_cons.mp h
    unfold ins
    by_cases e : c = d
    · rw [if_pos e]; exact h
    · rw [if_neg e]
      by_cases f : lt2 c d
      · rw [if_pos f]
        exact List.pairwise_cons.mpr ⟨fun x hx => (List.mem_cons.mp hx).elim (fun z => z ▸ f) fun z => lt2_trans f (h1 x z), h⟩
      · rw [if_neg f]
        refine List.pairwise_cons.mpr ⟨fun x hx => ?_, ins_rising h2⟩
        rcases mem_ins.1 hx with z | z
        · subst z
          have e' : ¬ (x.1 = d.1 ∧ x.2 = d.2) := fun y => e (Prod.ext_iff.2 y)
          unfold lt2 at *
          omega
        · exact h1 x z
theorem mem_rise {x : Cell} : ∀ {l : List Cell}, x ∈ rise l ↔ x ∈ l
  | [] => Iff.rfl
  | c :: l => by
    show x ∈ ins c (rise l) ↔ _
    rw [mem_ins, mem_rise, List.mem_cons]
theorem rise_rising : ∀ l : List Cell, Rising (rise l)
  | [] => .nil
  | c :: l => ins_rising (rise_rising l)
theorem rise_of {l : List Cell} (h : Rising l) : rise l = l := rising_one (rise_rising l) h fun _ => mem_rise
theorem rise_eq {l k : List Cell} (h : ∀ c, c ∈ l ↔ c ∈ k) : rise l = rise k := rising_one (rise_rising l) (rise_rising k) fun c => by rw [mem_rise, mem_rise, h c]
theorem rising_nodup {l : List Cell} (h : Rising l) : l.Nodup := List.Pairwise.imp (R := lt2) (fun {a b} q (e : a = b) => lt2_irrefl a (by rw [← e] at q; exact q)) h
theorem pair_rising {l : List SG.Row} (h : l.Pairwise fun q r => le2 q.2 r.2 = true) (nd : (l.map (·.2)).Nodup) : Rising (l.map (·.2)) := by
  rw [List.Nodup, List.pairwise_map] at nd
  exact List.pairwise_map.mpr ((h.and nd).imp fun q => le2_lt q.1 q.2)
/-! ### built-ins -/
variable {ρ : Rho} {te ta tb : TE} {x y z : SV} {K : PySem.W.Frag}
theorem one_of {H : Hp} {vs : List V} {x : SV} (h : Paired (SH H H) vs [x]) : ∃ v, vs = [v] ∧ SH H H v x := by
  cases h with
  | cons a r => cases r; exact ⟨_, rfl, a⟩
theorem two_of {H : Hp} {vs : List V} {x y : SV} (h : Paired (SH H H) vs [x, y]) : ∃ v w, vs = [v, w] ∧ SH H H v x ∧ SH H H w y := by
  cases h with
  | cons a r =>
    obtain ⟨w, rfl, b⟩ := one_of r
    exact ⟨_, w, rfl, a, b⟩
def xLen (K : PySem.W.Frag) : List V → Hp → VK → Prop := fun xs H Q => ∃ x n, xs = [x] ∧ LenV K x H n ∧ Q (.int n) H
theorem r_len {X : Cx} : CallR X (.builtin "len") (xLen X.K) := call_len
theorem c_lenT {ds : List PyData} : CallS (xLen K) [.im (.tuple ds)] (.im (.int ds.length)) := fun H vs Q h0 q => by
  obtain ⟨v, rfl, h⟩ := one_of h0
  obtain ⟨a, ws, rfl, e, r⟩ := Im.tup_v h
  exact ⟨_, ds.length, rfl, .inr ⟨ws, SqT.of e, r.len.symm⟩, done q (.int _)⟩
theorem c_lenL {ds : List PyData} {x : SV} (e : x.arg = .ro ds) : CallS (xLen K) [x] (.im (.int ds.length)) := fun H vs Q h0 q => by
  obtain ⟨v, rfl, h⟩ := one_of h0
  rw [e] at h
  obtain ⟨a, ws, rfl, e, r⟩ := h
  exact ⟨_, ds.length, rfl, .inl ⟨ws, SqL.of e, r.len.symm⟩, done q (.int _)⟩
theorem c_lenS {s : Str} (hl : s.length ≤ 100000) : CallS (xLen K) [.im (.str s)] (.im (.int s.length)) := fun H vs Q h0 q => by
  obtain ⟨v, rfl, h⟩ := one_of h0
  cases Im.str_v h
  exact ⟨_, s.length, rfl, ⟨by rw [sizeLine_eq]; omega, rfl⟩, done q (.int _)⟩
def xTuple (K : PySem.W.Frag) : List V → Hp → VK → Prop := fun xs H Q => ∃ p ys, xs = [.ref p] ∧ ((SqL K H p ys ∧ ∀ l, H l = none → Q (.ref l) (upd H l (.tup ys))) ∨ (SqT K H p ys ∧ Q (.ref p) H))
theorem r_tuple {X : Cx} : CallR X (.type "tuple") (xTuple X.K) := call_tuple_of
theorem c_tuple {ds : List PyData} {x : SV} (e : x.arg = .ro ds) : CallS (xTuple K) [x] (.im (.tuple ds)) := fun H vs Q h0 q => by
  obtain ⟨v, rfl, h⟩ := one_of h0
  rw [e] at h
  obtain ⟨a, ws, rfl, e, r⟩ := h
  refine ⟨a, ws, rfl, .inl ⟨SqL.of e, fun l hl => ?_⟩⟩
  have g := Gr.new (.tup ws) hl
  exact q _ _ g (.tup upd_same (r.kp g.kp))
def xList (K : PySem.W.Frag) : List V → Hp → VK → Prop := fun xs H Q => ∃ p ys, xs = [.ref p] ∧ (SqL K H p ys ∨ SqT K H p ys) ∧ ∀ l, H l = none → Q (.ref l) (upd H l (.lst ys))
theorem r_list {X : Cx} : CallR X (.type "list") (xList X.K) := call_list_of
theorem c_list {ds : List PyData} {x : SV} (e : x.arg = .ro ds) : CallS (xList K) [x] (.own ds) := fun H vs Q h0 q => by
  obtain ⟨v, rfl, h⟩ := one_of h0
  rw [e] at h
  obtain ⟨a, ws, rfl, e, r⟩ := h
  refine ⟨a, ws, rfl, .inl (SqL.of e), fun l hl => ?_⟩
  have g := Gr.new (.lst ws) hl
  exact q _ _ g ⟨l, ws, rfl, hl, upd_same, r.kp g.kp⟩
theorem bools_of {H : Hp} : ∀ {vs : List V} {bs : List Bool}, Ims H vs (bs.map .bool) → vs = bs.map V.bl
  | _, [], .nil => rfl
  | _, b :: bs, .cons a r => by rw [a.bl_v, bools_of r] <;> rfl
theorem c_all {bs : List Bool} {x : SV} (e : x.arg = .ro (bs.map .bool)) : CallS (rAll K) [x] (.im (.bool (bs.all id))) := fun H vs Q h0 q => by
  obtain ⟨v, rfl, h⟩ := one_of h0
  rw [e] at h
  obtain ⟨a, ws, rfl, e, r⟩ := h
  exact ⟨a, bs, rfl, bools_of r ▸ SqL.of e, done q (.bl _)⟩
theorem c_any {bs : List Bool} {x : SV} (e : x.arg = .ro (bs.map .bool)) : CallS (rAny K) [x] (.im (.bool (bs.any id))) := fun H vs Q h0 q => by
  obtain ⟨v, rfl, h⟩ := one_of h0
  rw [e] at h
  obtain ⟨a, ws, rfl, e, r⟩ := h
  exact ⟨a, bs, rfl, bools_of r ▸ SqL.of e, done q (.bl _)⟩
def xInt : List V → Hp → VK → Prop := fun xs H Q => ((∃ i, xs = [.int i] ∧ Q (.int i) H) ∨ ∃ k, xs = [.bl k] ∧ Q (.int (if k then 1 else 0)) H) ∨ ∃ a n, xs = [.str a] ∧ PySem.intText? a = some n ∧ a.length ≤ 640 ∧ Q (.int n) H
theorem r_int {X : Cx} : CallR X (.type "int") xInt := CallR.or call_int1 call_int_str
theorem c_intB {b : Bool} : CallS xInt [.im (.bool b)] (.im (.int (if b then 1 else 0))) := fun H vs Q h0 q => by
  obtain ⟨v, rfl, h⟩ := one_of h0
  cases Im.bl_v h
  exact .inl (.inr ⟨b, rfl, done q (.int _)⟩)
theorem c_intS {s : Str} {n : Int} (e : PySem.intText? s = some n) (hl : s.length ≤ 640) : CallS xInt [.im (.str s)] (.im (.int n)) := fun H vs Q h0 q => by
  obtain ⟨v, rfl, h⟩ := one_of h0
  cases Im.str_v h
  exact .inr ⟨s, n, rfl, e, hl, done q (.int _)⟩
def xStr : List V → Hp → VK → Prop := fun xs H Q => ∃ i, xs = [.int i] ∧ i.natAbs.log2 < 1920 ∧ Q (.str (toString i)) H
theorem r_str {X : Cx} : CallR X (.type "str") xStr := call_str_int
theorem c_str {i : Int} (hl : i.natAbs.log2 < 1920) : CallS xStr [.im (.int i)] (.im (.str (toString i))) := fun H vs Q h0 q => by
  obtain ⟨v, rfl, h⟩ := one_of h0
  cases Im.int_v h
  exact ⟨i, rfl, hl, done q (.str _)⟩
def xMin : List V → Hp → VK → Prop := fun xs H Q => ∃ i j, xs = [.int i, .int j] ∧ Q (.int (if j < i then j else i)) H
theorem r_min {X : Cx} (hc : X.calm = true) : CallR X (.builtin "min") xMin := call_min2 hc
theorem c_min {i j : Int} : CallS xMin [.im (.int i), .im (.int j)] (.im (.int (if j < i then j else i))) := fun H vs Q h0 q => by
  obtain ⟨v, w, rfl, h1, h2⟩ := two_of h0
  cases Im.int_v h1
  cases Im.int_v h2
  exact ⟨i, j, rfl, done q (.int _)⟩
def xDivmod : List V → Hp → VK → Prop := fun xs H Q => ∃ i j, xs = [.int i, .int j] ∧ CDivP i j ∧ ∀ p, H p = none → Q (.ref p) (upd H p (.tup [.int (i / j), .int (i % j)]))
theorem r_divmod {X : Cx} : CallR X (.builtin "divmod") xDivmod := call_divmodW
theorem c_divmod {i j : Int} (c : CDivP i j) : CallS xDivmod [.im (.int i), .im (.int j)] (.im (.tuple [.int (i / j), .int (i % j)])) := fun H vs Q h0 q => by
  obtain ⟨v, w, rfl, h1, h2⟩ := two_of h0
  cases Im.int_v h1
  cases Im.int_v h2
  exact ⟨i, j, rfl, c, fun p hp => q _ _ (Gr.new _ hp) (.tup upd_same (.cons (.int _) (.cons (.int _) .nil)))⟩
/-- sorted(set(xs)) -/
theorem es_sortedSet {P : Program} {w : World} {cs : List Cell} (h : EvS te ρ x) (e : x.arg = .ro (cs.map cD) ∨ x.arg = .im (csD cs)) (hl : cs.length ≤ 300) (px : x.plain = true := by rfl) :
    EvS (tCB (rSortS K P w) (tCons (tCB (rSet K P w) (tCons te tNil)) tNil)) ρ (.own ((rise cs).map cD)) := fun B σ H Q S q => h B σ H _ S fun v H1 g1 h1 => by
  have h2 := h1.asArg px
  obtain ⟨a, ws, rfl, hs, r⟩ : ∃ a ws, v = .ref a ∧ (SqL K H1 a ws ∨ SqT K H1 a ws) ∧ Ims H1 ws (cs.map cD) := by
    rcases e with e | e
    · rw [e] at h2
      obtain ⟨a, ws, rfl, e2, r⟩ := h2
      exact ⟨a, ws, rfl, .inl (SqL.of e2), r⟩
    · rw [e] at h2
      obtain ⟨a, ws, rfl, e2, r⟩ := Im.tup_v h2
      exact ⟨a, ws, rfl, .inr (SqT.of e2), r⟩
  obtain ⟨ks, rfl, ek, kk⟩ := r.rows
  refine ⟨a, ks, rfl, hs, fun p hp => SqT.of (kk p hp), by rw [← ek, List.length_map] at hl; exact hl, fun b L hb sub all nd => ?_⟩
  have g2 := Gr.new (SetC P w b L) hb
  refine ⟨b, L, rfl, upd_same, fun p hp => SqT.of (g2 _ _ (kk p (sub p hp))), fun L' p pm pw hp => ?_⟩
  have g3 := Gr.new (.lst (L'.map refR)) hp
  have e1 : L'.map (·.2) = rise cs := rising_one (pair_rising pw ((pm.map (·.2)).nodup_iff.mpr nd)) (rise_rising cs) fun c => by
    rw [mem_rise, ← ek, (pm.map (·.2)).mem_iff]
    constructor
    · intro z
      obtain ⟨y, hy, rfl⟩ := List.mem_map.mp z
      exact List.mem_map_of_mem (f := (·.2)) (sub y hy)
    · intro z
      obtain ⟨y, hy, rfl⟩ := List.mem_map.mp z
      exact all y hy
  refine q _ _ ((g1.trans g2).trans g3) ⟨p, L'.map refR, rfl, g1.back (g2.back hp), upd_same, ?_⟩
  rw [← e1]
  exact rows_ims L' fun y hy => g3 _ _ (g2 _ _ (kk y (sub y (pm.mem_iff.mp hy))))
/-- sorted(xs) of cells no two of which are alike -/
theorem es_sorted {cs : List Cell} (h : EvS te ρ x) (e : x.arg = .ro (cs.map cD)) (nd : cs.Nodup) (px : x.plain = true := by rfl) :
    EvS (tCB (rSortL K) (tCons te tNil)) ρ (.own ((rise cs).map cD)) := fun B σ H Q S q => h B σ H _ S fun v H1 g1 h1 => by
  have h2 := h1.asArg px
  rw [e] at h2
  obtain ⟨a, ws, rfl, e2, r⟩ := h2
  obtain ⟨ks, rfl, ek, kk⟩ := r.rows
  refine ⟨a, ks, rfl, SqL.of e2, fun p hp => SqT.of (kk p hp), fun L' p pm pw hp => ?_⟩
  have g3 := Gr.new (.lst (L'.map refR)) hp
  have e1 : L'.map (·.2) = rise cs := rising_one (pair_rising pw ((pm.map (·.2)).nodup_iff.mpr (ek ▸ nd))) (rise_rising cs) fun c => by
    rw [mem_rise, ← ek, (pm.map (·.2)).mem_iff]
  refine q _ _ (g1.trans g3) ⟨p, L'.map refR, rfl, g1.back hp, upd_same, ?_⟩
  rw [← e1]
  exact rows_ims L' fun y hy => g3 _ _ (kk y (pm.mem_iff.mp hy))
/-! ### own defs -/
/-- a def of data: R tells of the arguments what it hands back; nothing that stood is changed -/
def spD (R : List SV → SV → Prop) : Sp := fun vs H Q _ => ∃ xs x, Paired (SH H H) vs xs ∧ R xs x ∧ ∀ v H', Gr H H' → SH H H' v x → Q v H'
theorem es_call {R : List SV → SV → Prop} {E : XK} {t : TA} {xs : List SV} (ha : EvA t ρ xs) (hr : R (xs.map SV.arg) z) (p : xs.all SV.plain = true := by rfl) : EvS (tCall (spD R) [] E t) ρ z := fun B σ H Q S q =>
  ha B σ H _ S fun vs H1 g1 h1 => by
    show spD R (vs ++ []) H1 Q E
    rw [List.append_nil]
    exact ⟨_, z, asArgs p h1, hr, fun v H2 g2 h2 => q v H2 (g1.trans g2) (h2.back g1)⟩
/-! ### statements -/
inductive Out where
  | nx (ρ : Rho) | rt (x : SV) | bk (ρ : Rho) | ct (ρ : Rho) | rp (P : V → Hp → Prop)
def OutOk (B : Hp) (D : Ends) : Out → Prop
  | .nx ρ => ∀ σ H, St B σ H ρ → D.nx σ H
  | .rt x => ∀ v H, Gr B H → SH B H v x → D.rt v H
  | .bk ρ => ∀ σ H, St B σ H ρ → D.bk σ H
  | .ct ρ => ∀ σ H, St B σ H ρ → D.ct σ H
  | .rp P => ∀ v H, Gr B H → P v H → D.rt v H
def RunS (ts : TS) (ρ : Rho) (o : Out) : Prop := ∀ (B : Hp) (σ : L2.St) (H : Hp) (D : Ends), St B σ H ρ → OutOk B D o → ts D σ H
theorem OutOk.back {B B' : Hp} {D : Ends} (g : Gr B B') : ∀ {o : Out}, OutOk B D o → OutOk B' D o
  | .nx _, h => fun σ H S => h σ H (S.back g)
  | .rt _, h => fun v H gr r => h v H (g.trans gr) (r.back g)
  | .bk _, h => fun σ H S => h σ H (S.back g)
  | .ct _, h => fun σ H S => h σ H (S.back g)
  | .rp _, h => fun v H gr r => h v H (g.trans gr) r
variable {o : Out} {ρ1 : Rho} {t u : TS}
theorem rs_seq (h1 : RunS t ρ (.nx ρ1)) (h2 : RunS u ρ1 o) : RunS (tSeq t u) ρ o := fun B σ H D S q => h1 B σ H _ S fun σ1 H1 S1 => h2 B σ1 H1 D S1 q
theorem rs_seqX (h1 : RunS t ρ o) (n : ∀ r, o ≠ .nx r) : RunS (tSeq t u) ρ o := fun B σ H D S q => h1 B σ H _ S (by
  cases o with
  | nx r => exact absurd rfl (n r)
  | rt x => exact q
  | bk r => exact q
  | ct r => exact q
  | rp P => exact q)
theorem rs_seqRt (h1 : RunS t ρ (.rt x)) : RunS (tSeq t u) ρ (.rt x) := rs_seqX h1 fun _ z => nomatch z
theorem rs_next : RunS tNext ρ (.nx ρ) := fun B σ H D S q => q σ H S
theorem rs_break : RunS tBreak ρ (.bk ρ) := fun B σ H D S q => q σ H S
theorem rs_cont : RunS tCont ρ (.ct ρ) := fun B σ H D S q => q σ H S
theorem rs_ret (h : EvS te ρ x) : RunS (tRet te) ρ (.rt x) := fun B σ H D S q => h B σ H _ S fun v H1 g r => q v H1 (S.gr.trans g) (r.back S.gr)
theorem rs_seqRp {P : V → Hp → Prop} (h : RunS t ρ (.rp P)) : RunS (tSeq t u) ρ (.rp P) := rs_seqX h fun _ z => nomatch z
theorem rs_rp {P : V → Hp → Prop} (h : RunS t ρ (.rt x)) (c : ∀ B H v, SH B H v x → P v H) : RunS t ρ (.rp P) := fun B σ H D S q => h B σ H D S fun v H1 g r => q v H1 g (c B H1 v r)
theorem rs_retOwn {i : Nat} {ds : List PyData} (h : ρ[i]? = some (some (.own ds))) : RunS (tRet (tVar i)) ρ (.rt (.own ds)) := fun B σ H D S q => by
  obtain ⟨v, a, b⟩ := S.at_ i _ h
  exact ⟨v, a, q v H S.gr b⟩
theorem rs_if {tc : TT} {b : Bool} (hc : EvT tc ρ b) (h1 : b = true → RunS t ρ o) (h2 : b = false → RunS u ρ o) : RunS (tIfS tc t u) ρ o := fun B σ H D S q => hc B σ H _ S fun H1 g => by
  cases b with
  | true => exact iteT (h1 rfl B σ H1 D (S.grow g) q)
  | false => exact iteF (h2 rfl B σ H1 D (S.grow g) q)
theorem rs_asg {i : Nat} (h : EvS te ρ x) (nr : ∀ ds, x ≠ .ro ds := by intro _ z; cases z) : RunS (tAsg te (gName i)) ρ (.nx (ρ.set i (some x))) := fun B σ H D S q => h B σ H _ S fun v H1 g r => q _ _ (S.setNew g i r nr)
theorem rs_asg2 {i j : Nat} {d1 d2 : PyData} (h : EvS te ρ (.im (.tuple [d1, d2]))) : RunS (tAsg te (gTup K 2 (gCons (gName i) (gCons (gName j) gNil)))) ρ (.nx ((ρ.set i (some (.im d1))).set j (some (.im d2)))) := fun B σ H D S q =>
  h B σ H _ S fun v H1 g r => by
    obtain ⟨a, ws, rfl, e, r⟩ := Im.tup_v r
    cases r with
    | cons r1 r2 =>
      cases r2 with
      | cons r3 r4 =>
        cases r4
        exact ⟨a, _, rfl, SqT.of e, rfl, _, _, rfl, _, _, rfl, rfl, q _ _ (((S.grow g).setIm i r1).setIm j r3)⟩
/-- a, b = x, y -/
theorem rs_par {i j : Nat} {ta : TA} {d1 d2 : PyData} (h : EvA ta ρ [.im d1, .im d2]) : RunS (tPar i j ta) ρ (.nx ((ρ.set i (some (.im d1))).set j (some (.im d2)))) := fun B σ H D S q =>
  h B σ H _ S fun vs H1 g r => by
    cases r with
    | cons r1 r2 =>
      cases r2 with
      | cons r3 r4 =>
        cases r4
        exact ⟨_, _, rfl, q _ _ (((S.grow g).setIm i r1).setIm j r3)⟩
theorem rs_drop (h : EvS te ρ x) : RunS (tDrop te) ρ (.nx ρ) := fun B σ H D S q => h B σ H _ S fun v H1 g r => q σ H1 (S.grow g)
/-- xs.append(e) -/
theorem rs_append {i : Nat} {ds : List PyData} {d : PyData} (hi : ρ[i]? = some (some (.own ds))) (h : EvS te ρ (.im d)) (hl : ds.length < 100000) :
    RunS (tDrop (tBM K "list" rAppend (tVar i) (tCons te tNil))) ρ (.nx (ρ.set i (some (.own (ds ++ [d]))))) := fun B σ H D S q => by
  obtain ⟨v, a, b⟩ := S.at_ i _ hi
  obtain ⟨l, vs, rfl, nb, e, r⟩ := b
  refine ⟨_, a, .inl ⟨rfl, vs, SqL.of e⟩, h B σ H _ S fun w H1 g rw => ?_⟩
  refine ⟨l, vs, w, rfl, rfl, g _ _ e, by rw [r.len, sizeLine_eq]; omega, q _ _ ((S.grow g).change i hi rfl a ?_ rfl)⟩
  have kp : Kp H1 (upd H1 l (.lst (vs ++ [w]))) := .upd (g _ _ e) rfl
  exact ⟨l, _, rfl, nb, upd_same, ((r.kp g.kp).kp kp).app (.cons (Im.kp kp rw) .nil)⟩
/-- xs.extend(a new list, or one that is read) -/
theorem rs_extend {i : Nat} {ds es : List PyData} (hi : ρ[i]? = some (some (.own ds))) (h : EvS te ρ x) (ex : x.arg = .ro es) (hl : ds.length + es.length < 100000) (px : x.plain = true := by rfl) :
    RunS (tDrop (tBM K "list" rExtend (tVar i) (tCons te tNil))) ρ (.nx (ρ.set i (some (.own (ds ++ es))))) := fun B σ H D S q => by
  obtain ⟨v, a, b⟩ := S.at_ i _ hi
  obtain ⟨l, vs, rfl, nb, e, r⟩ := b
  refine ⟨_, a, .inl ⟨rfl, vs, SqL.of e⟩, h B σ H _ S fun w H1 g rw => ?_⟩
  have r2 := rw.asArg px
  rw [ex] at r2
  obtain ⟨b, ws, rfl, eb, rb⟩ := r2
  refine ⟨l, b, vs, ws, rfl, rfl, g _ _ e, eb, by rw [r.len, rb.len, sizeLine_eq]; omega, q _ _ ((S.grow g).change i hi rfl a ?_ rfl)⟩
  have kp : Kp H1 (upd H1 l (.lst (vs ++ ws))) := .upd (g _ _ e) rfl
  exact ⟨l, _, rfl, nb, upd_same, ((r.kp g.kp).kp kp).app (rb.kp kp)⟩
/-! ### dicts of cells -/
theorem es_dnew : EvS tDNewT ρ (.dic []) := fun B σ H Q S q p hp => q _ _ (Gr.new _ hp) ⟨p, [], rfl, hp, upd_same, rfl⟩
theorem lookK : ∀ {kvs : List (List Key × V)} {ks : List Cell} {c : Cell}, kvs.map (·.1) = ks.map cellK → (valV kvs (cellK c)).isSome = decide (c ∈ ks) := by
  intro kvs ks c h
  have inj : ∀ a b : Cell, cellK a = cellK b → a = b := fun a b e => by
    unfold cellK at e
    injection e with e1 e2
    injection e2 with e2 _
    injection e1 with e1
    injection e2 with e2
    exact Prod.ext e1 e2
  have m : c ∈ ks ↔ cellK c ∈ kvs.map (·.1) := by
    rw [h]
    exact ⟨fun z => List.mem_map_of_mem z, fun z => by obtain ⟨d, hd, e⟩ := List.mem_map.mp z; exact inj d c e ▸ hd⟩
  rw [Bool.eq_iff_iff, decide_eq_true_iff, m]
  cases e : valV kvs (cellK c) with
  | some v => exact ⟨fun _ => valV_in e, fun _ => rfl⟩
  | none => exact ⟨fun z => (nomatch z), fun z => absurd z (valV_not e)⟩
theorem es_din {i : Nat} {ks : List Cell} {c : Cell} (hi : ρ[i]? = some (some (.dic ks))) (h : EvS te ρ (.im (cD c))) : EvS (tDIn te (tVar i)) ρ (.im (.bool (decide (c ∈ ks)))) := fun B σ H Q S q =>
  h B σ H _ S fun v H1 g r => by
    obtain ⟨u, a, b⟩ := (S.grow g).at_ i _ hi
    obtain ⟨d, kvs, rfl, _, e, m⟩ := b
    obtain ⟨cell, rfl, ec⟩ := Im.cell r
    refine ⟨_, a, d, _, rfl, DGet.t (k := cellK c) e ec, ?_⟩
    rw [lookK m]
    exact q _ H1 g (.bl _)
theorem es_dnotin {i : Nat} {ks : List Cell} {c : Cell} (hi : ρ[i]? = some (some (.dic ks))) (h : EvS te ρ (.im (cD c))) : EvS (tDNotIn te (tVar i)) ρ (.im (.bool (!decide (c ∈ ks)))) := fun B σ H Q S q =>
  h B σ H _ S fun v H1 g r => by
    obtain ⟨u, a, b⟩ := (S.grow g).at_ i _ hi
    obtain ⟨d, kvs, rfl, _, e, m⟩ := b
    obtain ⟨cell, rfl, ec⟩ := Im.cell r
    refine ⟨_, a, d, _, rfl, DGet.t (k := cellK c) e ec, ?_⟩
    rw [lookK m]
    exact q _ H1 g (.bl _)
theorem keys_put {kvs : List (List Key × V)} {ks : List Cell} {c : Cell} {v : V} (h : kvs.map (·.1) = ks.map cellK) : (putK kvs (cellK c) v).map (·.1) = (if c ∈ ks then ks else ks ++ [c]).map cellK := by
  have l := lookK (c := c) h
  unfold putK
  rw [valV_any, l]
  by_cases m : c ∈ ks
  · rw [if_pos (decide_eq_true m), if_pos m, ← h, List.map_map]
    refine List.map_congr_left fun p _ => ?_
    show (if p.1 = cellK c then (p.1, v) else p).1 = p.1
    split <;> rfl
  · rw [if_neg (by rw [decide_eq_false m]; exact Bool.false_ne_true), if_neg m, List.map_append, List.map_append, h] <;> rfl
theorem keys_len {kvs : List (List Key × V)} {ks : List Cell} (h : kvs.map (·.1) = ks.map cellK) : kvs.length = ks.length := by
  have := congrArg List.length h
  rw [List.length_map, List.length_map] at this
  exact this
/-- d[cell] = a flat value -/
theorem rs_dput {i : Nat} {ks : List Cell} {c : Cell} {d : PyData} (hi : ρ[i]? = some (some (.dic ks))) (hk : EvS te ρ (.im (cD c))) (hv : EvS ta ρ (.im d)) (hl : ks.length < 100000) :
    RunS (sDPut (tVar i) te ta) ρ (.nx (ρ.set i (some (.dic (if c ∈ ks then ks else ks ++ [c]))))) := fun B σ H D S q =>
  hv B σ H _ S fun y H1 g1 r1 => by
    obtain ⟨u, a, b⟩ := (S.grow g1).at_ i _ hi
    refine ⟨_, a, hk B σ H1 _ (S.grow g1) fun v H2 g2 r2 => ?_⟩
    obtain ⟨dd, kvs, rfl, nb, e, m⟩ := b
    obtain ⟨cell, rfl, ec⟩ := Im.cell r2
    refine ⟨dd, _, rfl, DPut.t (k := cellK c) (g2 _ _ e) ec (by rw [keys_len m, sizeLine_eq]; omega), q _ _ (((S.grow g1).grow g2).change i hi rfl a ⟨dd, _, rfl, nb, upd_same, keys_put m⟩ rfl)⟩
end DL
/-! ==== DL4 -/
set_option maxRecDepth 100000
set_option maxHeartbeats 4000000
/-! Loops, comprehensions, defs at the data level. -/
namespace DL
open PySem PySem.Spec PyProof.Rows L2 SG
variable {ρ ρ1 : Rho} {te ta tb : TE} {x y z : SV} {K : PySem.W.Frag} {o : Out} {t u : TS} {g : TG}
/-- a turn: the target takes d, then the body -/
def TurnS (g : TG) (t : TS) (ρ : Rho) (d : PyData) (o : Out) : Prop := ∀ (B : Hp) (σ : L2.St) (H : Hp) (D : Ends) (v : V), St B σ H ρ → Im H v d → OutOk B D o → g v σ H fun σ2 H2 => t D σ2 H2
theorem turn_name {j : Nat} {d : PyData} (h : RunS t (ρ.set j (some (.im d))) o) : TurnS (gName j) t ρ d o := fun B σ H D v S i q => h B _ H D (S.setIm j i) q
theorem turn_pair {i j : Nat} {d1 d2 : PyData} (h : RunS t ((ρ.set i (some (.im d1))).set j (some (.im d2))) o) : TurnS (gTup K 2 (gCons (gName i) (gCons (gName j) gNil))) t ρ (.tuple [d1, d2]) o := fun B σ H D v S im q => by
  obtain ⟨a, ws, rfl, e, r⟩ := im.tup_v
  cases r with
  | cons r1 r2 =>
    cases r2 with
    | cons r3 r4 =>
      cases r4
      exact ⟨a, _, rfl, SqT.of e, rfl, _, _, rfl, _, _, rfl, rfl, h B _ H D ((S.setIm i r1).setIm j r3) q⟩
inductive ForS (g : TG) (t : TS) : Rho → List PyData → Out → Prop
  | nil {ρ : Rho} : ForS g t ρ [] (.nx ρ)
  | cons {ρ ρ1 : Rho} {d : PyData} {ds : List PyData} {o : Out} : TurnS g t ρ d (.nx ρ1) → ForS g t ρ1 ds o → ForS g t ρ (d :: ds) o
  | cont {ρ ρ1 : Rho} {d : PyData} {ds : List PyData} {o : Out} : TurnS g t ρ d (.ct ρ1) → ForS g t ρ1 ds o → ForS g t ρ (d :: ds) o
  | brk {ρ ρ1 : Rho} {d : PyData} {ds : List PyData} : TurnS g t ρ d (.bk ρ1) → ForS g t ρ (d :: ds) (.nx ρ1)
  | ret {ρ : Rho} {d : PyData} {ds : List PyData} {x : SV} : TurnS g t ρ d (.rt x) → ForS g t ρ (d :: ds) (.rt x)
  | rp {ρ : Rho} {d : PyData} {ds : List PyData} {P : V → Hp → Prop} : TurnS g t ρ d (.rp P) → ForS g t ρ (d :: ds) (.rp P)
/-- a loop whose turns all go on: f is what the slots hold behind so many items -/
theorem for_all {f : List PyData → Rho} : ∀ (ds pre : List PyData), (∀ p d r, pre ++ ds = p ++ d :: r → TurnS g t (f p) d (.nx (f (p ++ [d])))) → ForS g t (f pre) ds (.nx (f (pre ++ ds)))
  | [], pre, _ => by rw [List.append_nil]; exact .nil
  | d :: ds, pre, h => by
    have ih := for_all ds (pre ++ [d]) fun p e r q => h p e r (by rw [← q, List.append_assoc] <;> rfl)
    rw [List.append_assoc] at ih
    exact .cons (h pre d ds rfl) ih
/-- the engine: an iterator that yields ds, whatever else is changed but what stands in B' -/
theorem for_run {J : It} {ds : List PyData} {B' : Hp} {D : Ends} (stop : ∀ i H, Gr B' H → ds.length ≤ i → J.stop i H) (go : ∀ i H, Gr B' H → i < ds.length → J.go i H)
    (yld : ∀ i H x H' d, Gr B' H → ds[i]? = some d → J.yld i H x H' → H' = H ∧ Im H x d) {σ : L2.St} {H : Hp} (S : St B' σ H ρ) (F : ForS g t ρ ds o) (q : OutOk B' D o) :
    ∃ W : Nat → Nat → L2.St → Hp → Prop, (∃ m, W 0 m σ H) ∧ ∀ i m σ H, W i m σ H →
      (J.stop i H ∧ D.nx σ H) ∨ (J.go i H ∧ ∃ N : L2.St → Hp → Prop, (∀ σ' H', N σ' H' → ∃ m', m' < m ∧ W (i + 1) m' σ' H') ∧ ∀ x H', J.yld i H x H' → g x σ H' fun σ2 H2 => t { D with nx := N, ct := N, bk := D.nx } σ2 H2) := by
  refine ⟨fun i m σ H => i + m = ds.length ∧ ∃ ρ, St B' σ H ρ ∧ ForS g t ρ (ds.drop i) o, ⟨ds.length, Nat.zero_add _, ρ, S, F⟩, ?_⟩
  rintro i m σ H ⟨him, ρ, S, F⟩
  by_cases c : i < ds.length
  · right
    obtain ⟨d, hd⟩ : ∃ d, ds[i]? = some d := ⟨_, List.getElem?_eq_getElem c⟩
    have e : ds.drop i = d :: ds.drop (i + 1) := by
      rw [List.drop_eq_getElem_cons c]
      rw [List.getElem?_eq_getElem c] at hd
      cases hd
      rfl
    rw [e] at F
    refine ⟨go i H S.gr c, fun σ' H' => ∃ ρ1, St B' σ' H' ρ1 ∧ ForS g t ρ1 (ds.drop (i + 1)) o, fun σ' H' ⟨ρ1, S1, F1⟩ => ⟨m - 1, by omega, by omega, ρ1, S1, F1⟩, fun x H' y => ?_⟩
    obtain ⟨rfl, im⟩ := yld i H x H' d S.gr hd y
    cases F with
    | cons T F => exact T B' σ _ _ x S im fun σ1 H1 S1 => ⟨_, S1, F⟩
    | cont T F => exact T B' σ _ _ x S im fun σ1 H1 S1 => ⟨_, S1, F⟩
    | rp T => exact T B' σ _ _ x S im q
    | brk T => exact T B' σ _ _ x S im fun σ1 H1 S1 => q σ1 H1 S1
    | ret T => exact T B' σ _ _ x S im q
  · left
    have e : ds.drop i = [] := List.drop_eq_nil_of_le (Nat.le_of_not_lt c)
    rw [e] at F
    cases F
    exact ⟨stop i H S.gr (Nat.le_of_not_lt c), q σ H S⟩
theorem not_mut {B σ H} {a : Addr} {o : HO} (S : St B σ H ρ) (h : H a = some o) (s : still o = true) : ¬ MutAt σ ρ a := fun ⟨i, x, h1, h2, h3⟩ => by
  obtain ⟨v, a1, a2⟩ := S.at_ i x h1
  obtain ⟨b, u, e1, _, e2, nt⟩ := a2.mutB h2
  rw [h3] at a1
  cases a1
  cases e1
  rw [h] at e2
  cases e2
  rw [nt] at s
  cases s
/-- what is held fast reads as before -/
theorem Ims.hid {H H2 : Hp} {σ : L2.St} {B : Hp} (S : St B σ H ρ) (g : Gr (hideM σ ρ H) H2) : Kp H H2 := fun a o e s => g a _ ((hideM_ne (not_mut S e s)).trans e)
theorem rs_forT {ds : List PyData} (h : EvS te ρ (.im (.tuple ds))) (F : ForS g t ρ ds o) : RunS (tFor (iTup K te) g t) ρ o := fun B σ H D S q => h B σ H _ S fun v H1 g1 r => by
  obtain ⟨a, vs, rfl, e, r⟩ := Im.tup_v r
  have S1 := S.grow g1
  obtain ⟨gb, S2⟩ := S1.hide
  have ea : hideM σ ρ H1 a = some (.tup vs) := (hideM_ne (not_mut S1 e rfl)).trans e
  refine ⟨a, rfl, ⟨vs, SqT.of e⟩, for_run (J := Itt K a) (ds := ds) (fun i H2 g2 hi => ⟨vs, SqT.of (g2 _ _ ea), by rw [r.len]; exact hi⟩) (fun i H2 g2 hi => ⟨vs, _, SqT.of (g2 _ _ ea), List.getElem?_eq_getElem (by rw [r.len]; exact hi)⟩)
    (fun i H2 x H' d g2 hd y => ?_) S2 F (q.back gb)⟩
  obtain ⟨e1, y⟩ := y
  obtain ⟨w, hw, iw⟩ := r.at_ hd
  have := (y vs (SqT.of (g2 _ _ ea))).symm.trans hw
  cases this
  exact ⟨e1, iw.kp (Ims.hid S1 g2)⟩
/-- over a list that was just made -/
theorem rs_forN {ds : List PyData} (h : EvS te ρ (.own ds)) (F : ForS g t ρ ds o) : RunS (tFor (iList K te) g t) ρ o := fun B σ H D S q => h B σ H _ S fun v H1 g1 r => by
  obtain ⟨a, vs, rfl, na, e, r⟩ := r
  have S1 := S.grow g1
  have nm : ¬ MutAt σ ρ a := fun ⟨i, x, h1, h2, h3⟩ => by
    obtain ⟨v, a1, a2⟩ := S.at_ i x h1
    obtain ⟨b, u, e1, _, e2, _⟩ := a2.mutB h2
    rw [h3] at a1
    cases a1
    cases e1
    rw [na] at e2
    cases e2
  obtain ⟨gb, S2⟩ := S1.hide
  have ea : hideM σ ρ H1 a = some (.lst vs) := (hideM_ne nm).trans e
  refine ⟨a, rfl, ⟨vs, SqL.of e⟩, for_run (J := Itl K a) (ds := ds) (fun i H2 g2 hi => ⟨vs, SqL.of (g2 _ _ ea), by rw [r.len]; exact hi⟩) (fun i H2 g2 hi => ⟨vs, _, SqL.of (g2 _ _ ea), List.getElem?_eq_getElem (by rw [r.len]; exact hi)⟩)
    (fun i H2 x H' d g2 hd y => ?_) S2 F (q.back gb)⟩
  obtain ⟨e1, y⟩ := y
  obtain ⟨w, hw, iw⟩ := r.at_ hd
  have := (y vs (SqL.of (g2 _ _ ea))).symm.trans hw
  cases this
  exact ⟨e1, iw.kp (Ims.hid S1 g2)⟩
theorem rs_forR1 {n : Int} {t1 : TA} (h : EvA t1 ρ [.im (.int n)]) (h1 : -(2 ^ 62) ≤ n) (h2 : n < 2 ^ 62) (F : ForS g t ρ ((List.range n.toNat).map fun k => .int (0 + (k : Nat))) o) : RunS (tFor (iRng1 t1) g t) ρ o := fun B σ H D S q => h B σ H _ S fun vs H1 g1 r => by
  cases r with
  | cons a r =>
    cases r
    cases Im.int_v a
    have ll : ((List.range n.toNat).map fun k => PyData.int (0 + (k : Nat))).length = n.toNat := by rw [List.length_map, List.length_range]
    refine ⟨n, rfl, h1, h2, for_run (J := Itr 0 n.toNat) (fun i H2 g2 hi => by rw [ll] at hi; exact hi) (fun i H2 g2 hi => by rw [ll] at hi; exact hi) (fun i H2 x H' d g2 hd y => ?_) (S.grow g1) F q⟩
    obtain ⟨e1, rfl⟩ := y
    rw [List.getElem?_map] at hd
    obtain ⟨k, hk, rfl⟩ := Option.map_eq_some_iff.mp hd
    rw [List.getElem?_range (by have := (List.getElem?_eq_some_iff.mp hk).1; rw [List.length_range] at this; exact this)] at hk
    cases hk
    exact ⟨e1, .int _⟩
theorem rs_forR2 {lo hi : Int} {t1 : TA} (h : EvA t1 ρ [.im (.int lo), .im (.int hi)]) (h1 : -(2 ^ 62) ≤ lo ∧ lo < 2 ^ 62 ∧ -(2 ^ 62) ≤ hi ∧ hi < 2 ^ 62) (F : ForS g t ρ ((List.range (hi - lo).toNat).map fun k => .int (lo + (k : Nat))) o) : RunS (tFor (iRng2 t1) g t) ρ o := fun B σ H D S q => h B σ H _ S fun vs H1 g1 r => by
  cases r with
  | cons a r =>
    cases r with
    | cons b r =>
      cases r
      cases Im.int_v a
      cases Im.int_v b
      have ll : ((List.range (hi - lo).toNat).map fun k => PyData.int (lo + (k : Nat))).length = (hi - lo).toNat := by rw [List.length_map, List.length_range]
      refine ⟨lo, hi, rfl, h1, for_run (J := Itr lo (hi - lo).toNat) (fun i H2 g2 hi => by rw [ll] at hi; exact hi) (fun i H2 g2 hi => by rw [ll] at hi; exact hi) (fun i H2 x H' d g2 hd y => ?_) (S.grow g1) F q⟩
      obtain ⟨e1, rfl⟩ := y
      rw [List.getElem?_map] at hd
      obtain ⟨k, hk, rfl⟩ := Option.map_eq_some_iff.mp hd
      rw [List.getElem?_range (by have := (List.getElem?_eq_some_iff.mp hk).1; rw [List.length_range] at this; exact this)] at hk
      cases hk
      exact ⟨e1, .int _⟩
theorem rs_forS {s : Str} (h : EvS te ρ (.im (.str s))) (F : ForS g t ρ (s.cps.toList.map fun c => .str ⟨#[c]⟩) o) : RunS (tFor (iStr te) g t) ρ o := fun B σ H D S q => h B σ H _ S fun v H1 g1 r => by
  cases Im.str_v r
  have ll : (s.cps.toList.map fun c => PyData.str ⟨#[c]⟩).length = s.cps.size := by rw [List.length_map, Array.length_toList]
  refine ⟨s, rfl, for_run (J := Its s) (fun i H2 g2 hi => by rw [ll] at hi; exact hi) (fun i H2 g2 hi => by rw [ll] at hi; exact hi) (fun i H2 x H' d g2 hd y => ?_) (S.grow g1) F q⟩
  obtain ⟨e1, c, hc, rfl⟩ := y
  rw [List.getElem?_map, Array.getElem?_toList, hc] at hd
  cases hd
  exact ⟨e1, .str _⟩
/-! ### comprehensions -/
/-- one item: what comes of it, if anything -/
def ItemS (g : TG) (tt : TT) (te : TE) (vs : List Nat) (ρ : Rho) (d : PyData) (r : Option PyData) : Prop :=
  ∀ (B : Hp) (σ : L2.St) (H : Hp) (v : V) (k : L2.St → Hp → Prop), St B σ H ρ → Im H v d → wipe σ vs = σ →
    (∀ σ2 ρ2, wipe σ2 vs = σ → St B σ2 H ρ2 → ∃ b, EvT tt ρ2 b ∧ (b = true → ∃ e, r = some e ∧ EvS te ρ2 (.im e)) ∧ (b = false → r = none) → k σ2 H) → g v σ H k
/-- the element's own view: after the target -/
structure LcItem (tt : TT) (te : TE) (ρ : Rho) (r : Option PyData) : Prop where
  ok : ∃ b, EvT tt ρ b ∧ (b = true → ∃ e, r = some e ∧ EvS te ρ (.im e)) ∧ (b = false → r = none)
theorem lc_yes {e : PyData} (h : EvS te ρ (.im e)) : LcItem tYes te ρ (some e) := ⟨true, et_yes, fun _ => ⟨e, rfl, h⟩, fun z => nomatch z⟩
theorem lc_if {tt : TT} {b : Bool} {e : PyData} (ht : EvT tt ρ b) (h : b = true → EvS te ρ (.im e)) : LcItem tt te ρ (if b then some e else none) := by
  refine ⟨b, ht, fun z => ?_, fun z => ?_⟩
  · subst z; exact ⟨e, rfl, h rfl⟩
  · subst z; rfl
/-- the target of a comprehension: a name, a pair of names -/
inductive LcT (ρ : Rho) : TG → List Nat → PyData → Rho → Prop
  | name (j : Nat) (d : PyData) : LcT ρ (gName j) [j] d (ρ.set j (some (.im d)))
  | pair (K : PySem.W.Frag) (i j : Nat) (d1 d2 : PyData) : i ≠ j → LcT ρ (gTup K 2 (gCons (gName i) (gCons (gName j) gNil))) [i, j] (.tuple [d1, d2]) ((ρ.set i (some (.im d1))).set j (some (.im d2)))
theorem wipe_St {B H : Hp} : ∀ {vs : List Nat} {σ : L2.St} {ρ : Rho}, St B σ H ρ → St B (wipe σ vs) H (vs.foldr (fun i r => r.set i none) ρ)
  | [], _, _, S => S
  | v :: vs, σ, ρ, S => by
    show St B ((wipe σ vs).set v none) H ((vs.foldr (fun i r => r.set i none) ρ).set v none)
    exact (wipe_St (vs := vs) S).clear v
theorem set_comm' {α : Type} (l : List α) {i j : Nat} (h : i ≠ j) (a b : α) : (l.set i a).set j b = (l.set j b).set i a := List.set_comm a b h
theorem lcT_run {B H : Hp} {σ : L2.St} {d : PyData} {vs : List Nat} {v : V} {k : L2.St → Hp → Prop} (T : LcT (vs.foldr (fun i r => r.set i none) ρ) g vs d ρ1) (S : St B (wipe σ vs) H (vs.foldr (fun i r => r.set i none) ρ)) (im : Im H v d)
    (q : ∀ σ2, wipe σ2 vs = wipe σ vs → St B σ2 H ρ1 → k σ2 H) : g v (wipe σ vs) H k := by
  cases T with
  | name j d =>
    refine q _ ?_ (S.setIm j im)
    show (((wipe σ [j]).set j (some v)).set j none) = (wipe σ []).set j none
    show ((((σ.set j none)).set j (some v)).set j none) = σ.set j none
    rw [List.set_set, List.set_set]
  | pair K i j d1 d2 ne =>
    obtain ⟨a, ws, rfl, e, r⟩ := im.tup_v
    cases r with
    | cons r1 r2 =>
      cases r2 with
      | cons r3 r4 =>
        cases r4
        refine ⟨a, _, rfl, SqT.of e, rfl, _, _, rfl, _, _, rfl, rfl, q _ ?_ ((S.setIm i r1).setIm j r3)⟩
        rename_i w1 w2
        show (((((σ.set j none).set i none).set i (some w1)).set j (some w2)).set j none).set i none = (σ.set j none).set i none
        rw [List.set_set, List.set_set, set_comm' _ ne, List.set_set, List.set_set]
/-- [elt for target in (a tuple) if ..] -/
theorem lc_core_run {α : Type} {enc : α → PyData} {J : It} {tt : TT} {vs : List Nat} {l : List α} {f : α → Option PyData} {B : Hp} {σ : L2.St} {H : Hp} {Q : VK} (S : St B σ H ρ) (D : Addr) (hD : H D = none)
    (stop : ∀ i H2, Gr H H2 → l.length ≤ i → J.stop i H2) (go : ∀ i H2, Gr H H2 → i < l.length → J.go i H2) (yld : ∀ i H2 x H' d, Gr H H2 → (l.map enc)[i]? = some d → J.yld i H2 x H' → H' = H2 ∧ Im H2 x d)
    (el : ∀ a ∈ l, ∃ ρ1, LcT (vs.foldr (fun i r => r.set i none) ρ) g vs (enc a) ρ1 ∧ LcItem tt te ρ1 (f a)) (hl : l.length < 100000) (q : ∀ v H1, Gr H H1 → SH H H1 v (.own (l.filterMap f)) → Q v H1) :
    ∃ W : Nat → Nat → Hp → Prop, (∃ m, W 0 m (upd H D (.lst []))) ∧ ∀ i m H, W i m H →
      (J.stop i H ∧ Q (.ref D) H) ∨ (J.go i H ∧ ∃ Nx : Hp → Prop, (∀ H', Nx H' → ∃ m', m' < m ∧ W (i + 1) m' H') ∧ ∀ x H', J.yld i H x H' → g x (wipe σ vs) H' fun σ2 H2 => wipe σ2 vs = wipe σ vs ∧ tt σ2 H2 fun b H3 =>
        if b = true then te σ2 H3 fun y H4 => ∃ acc, H4 D = some (.lst acc) ∧ acc.length < sizeLine ∧ Nx (upd H4 D (.lst (acc ++ [y]))) else Nx H3) := by
  refine ⟨fun i m H2 => i + m = l.length ∧ Gr H H2 ∧ ∃ acc, H2 D = some (.lst acc) ∧ acc.length ≤ i ∧ Ims H2 acc ((l.take i).filterMap f), ⟨l.length, Nat.zero_add _, Gr.new _ hD, [], upd_same, Nat.le_refl _, .nil⟩, ?_⟩
  rintro i m H2 ⟨him, g2, acc, hacc, la, r⟩
  by_cases c : i < l.length
  · right
    obtain ⟨a, ha⟩ : ∃ a, l[i]? = some a := ⟨_, List.getElem?_eq_getElem c⟩
    have hd : (l.map enc)[i]? = some (enc a) := by rw [List.getElem?_map, ha] <;> rfl
    have e1 : l.take (i + 1) = l.take i ++ [a] := by rw [List.take_succ, ha] <;> rfl
    refine ⟨go i H2 g2 c, fun H' => Gr H H' ∧ ∃ acc, H' D = some (.lst acc) ∧ acc.length ≤ i + 1 ∧ Ims H' acc ((l.take (i + 1)).filterMap f), fun H' ⟨a, b⟩ => ⟨m - 1, by omega, by omega, a, b⟩, fun x H' y => ?_⟩
    obtain ⟨rfl, im⟩ := yld i H2 x H' _ g2 hd y
    obtain ⟨ρ1, T, it⟩ := el a (List.mem_of_getElem? ha)
    obtain ⟨b, et, y1, n1⟩ := it.ok
    refine lcT_run T (wipe_St (S.grow g2)) im fun σ2 w2 S2 => ⟨w2, et B σ2 _ _ S2 fun H3 g3 => ?_⟩
    cases b with
    | true =>
      refine iteT ?_
      obtain ⟨e, ef, ev⟩ := y1 rfl
      refine ev B σ2 H3 _ (S2.grow g3) fun w H4 g4 iw => ⟨acc, g4 _ _ (g3 _ _ hacc), by rw [sizeLine_eq]; omega, ?_⟩
      have kp : Kp H4 (upd H4 D (.lst (acc ++ [w]))) := .upd (g4 _ _ (g3 _ _ hacc)) rfl
      refine ⟨fun a u h => ?_, acc ++ [w], upd_same, by rw [List.length_append]; exact Nat.succ_le_succ la, ?_⟩
      · rw [upd_ne (fun z => by rw [z, hD] at h; cases h)]
        exact g4 _ _ (g3 _ _ (g2 _ _ h))
      · rw [e1, List.filterMap_append, List.filterMap_cons_some ef]
        exact (((r.kp g3.kp).kp g4.kp).kp kp).app (.cons (Im.kp kp iw) .nil)
    | false =>
      refine iteF ⟨g2.trans g3, acc, g3 _ _ hacc, Nat.le_succ_of_le la, ?_⟩
      rw [e1, List.filterMap_append, List.filterMap_cons_none (n1 rfl), List.filterMap_nil, List.append_nil]
      exact r.kp g3.kp
  · left
    have e1 : l.take i = l := List.take_of_length_le (Nat.le_of_not_lt c)
    rw [e1] at r
    exact ⟨stop i H2 g2 (Nat.le_of_not_lt c), q _ H2 g2 ⟨D, acc, rfl, hD, hacc, r⟩⟩
theorem es_lcT {α : Type} {enc : α → PyData} {tt : TT} {vs : List Nat} {l : List α} {f : α → Option PyData} (h : EvS ta ρ (.im (.tuple (l.map enc)))) (el : ∀ a ∈ l, ∃ ρ1, LcT (vs.foldr (fun i r => r.set i none) ρ) g vs (enc a) ρ1 ∧ LcItem tt te ρ1 (f a)) (hl : l.length < 100000) :
    EvS (tLc (iTup K ta) g tt te vs) ρ (.own (l.filterMap f)) := fun B σ H Q S q => h B σ H _ S fun v H1 g1 r => by
  obtain ⟨a, ws, rfl, e, r⟩ := Im.tup_v r
  have rl : ws.length = l.length := by rw [r.len, List.length_map]
  refine ⟨a, rfl, ⟨ws, SqT.of e⟩, fun D hD => lc_core_run (enc := enc) (J := Itt K a) (S.grow g1) D hD (fun i H2 g2 hi => ⟨ws, SqT.of (g2 _ _ e), by rw [rl]; exact hi⟩) (fun i H2 g2 hi => ⟨ws, _, SqT.of (g2 _ _ e), List.getElem?_eq_getElem (by rw [rl]; exact hi)⟩)
    (fun i H2 x H' d g2 hd y => ?_) el hl fun v H2 g2 h2 => q v H2 (g1.trans g2) (h2.back g1)⟩
  obtain ⟨e1, y⟩ := y
  obtain ⟨w, hw, iw⟩ := r.at_ hd
  have := (y ws (SqT.of (g2 _ _ e))).symm.trans hw
  cases this
  exact ⟨e1, iw.kp g2.kp⟩
theorem es_lcL {α : Type} {enc : α → PyData} {tt : TT} {vs : List Nat} {l : List α} {f : α → Option PyData} (h : EvS ta ρ x) (ex : x.arg = .ro (l.map enc)) (el : ∀ a ∈ l, ∃ ρ1, LcT (vs.foldr (fun i r => r.set i none) ρ) g vs (enc a) ρ1 ∧ LcItem tt te ρ1 (f a)) (hl : l.length < 100000) (px : x.plain = true := by rfl) :
    EvS (tLc (iList K ta) g tt te vs) ρ (.own (l.filterMap f)) := fun B σ H Q S q => h B σ H _ S fun v H1 g1 r => by
  have r := r.asArg px
  rw [ex] at r
  obtain ⟨a, ws, rfl, e, r⟩ := r
  have rl : ws.length = l.length := by rw [r.len, List.length_map]
  refine ⟨a, rfl, ⟨ws, SqL.of e⟩, fun D hD => lc_core_run (enc := enc) (J := Itl K a) (S.grow g1) D hD (fun i H2 g2 hi => ⟨ws, SqL.of (g2 _ _ e), by rw [rl]; exact hi⟩) (fun i H2 g2 hi => ⟨ws, _, SqL.of (g2 _ _ e), List.getElem?_eq_getElem (by rw [rl]; exact hi)⟩)
    (fun i H2 x H' d g2 hd y => ?_) el hl fun v H2 g2 h2 => q v H2 (g1.trans g2) (h2.back g1)⟩
  obtain ⟨e1, y⟩ := y
  obtain ⟨w, hw, iw⟩ := r.at_ hd
  have := (y ws (SqL.of (g2 _ _ e))).symm.trans hw
  cases this
  exact ⟨e1, iw.kp g2.kp⟩
theorem es_lcS {tt : TT} {vs : List Nat} {s : Str} {f : Nat → Option PyData} (h : EvS ta ρ (.im (.str s))) (el : ∀ c ∈ s.cps.toList, ∃ ρ1, LcT (vs.foldr (fun i r => r.set i none) ρ) g vs (.str ⟨#[c]⟩) ρ1 ∧ LcItem tt te ρ1 (f c)) (hl : s.cps.toList.length < 100000) :
    EvS (tLc (iStr ta) g tt te vs) ρ (.own (s.cps.toList.filterMap f)) := fun B σ H Q S q => h B σ H _ S fun v H1 g1 r => by
  cases Im.str_v r
  have ll : s.cps.toList.length = s.cps.size := Array.length_toList
  refine ⟨s, rfl, fun D hD => lc_core_run (enc := fun c => PyData.str ⟨#[c]⟩) (J := Its s) (S.grow g1) D hD (fun i H2 g2 hi => by rw [ll] at hi; exact hi) (fun i H2 g2 hi => by rw [ll] at hi; exact hi)
    (fun i H2 x H' d g2 hd y => ?_) el hl fun v H2 g2 h2 => q v H2 (g1.trans g2) (h2.back g1)⟩
  obtain ⟨e1, c, hc, rfl⟩ := y
  rw [List.getElem?_map, Array.getElem?_toList, hc] at hd
  cases hd
  exact ⟨e1, .str _⟩
theorem filterMap_some {α β : Type} (f : α → β) (l : List α) : l.filterMap (fun a => some (f a)) = l.map f := by
  rw [← List.filterMap_eq_map] <;> rfl
/-! ### what is forgotten, what is the same -/
theorem St.forget {B H : Hp} {σ : L2.St} (S : St B σ H ρ) (i : Nat) : St B σ H (ρ.set i none) := by
  have no : ∀ {j : Nat} {y : SV}, (ρ.set i none)[j]? = some (some y) → ρ[j]? = some (some y) := fun {j y} e => by
    by_cases c : i = j
    · subst c
      rw [List.getElem?_set] at e
      simp only [if_true] at e
      by_cases l : i < ρ.length
      · rw [if_pos l] at e; cases e
      · rw [if_neg l] at e; cases e
    · rw [List.getElem?_set_ne c] at e
      exact e
  exact ⟨S.gr, by rw [List.length_set]; exact S.len, fun j y e => S.at_ j y (no e), fun j k y z w hjk ey my ez lz hw => S.apart j k y z w hjk (no ey) my (no ez) lz hw⟩
theorem rs_clear (i : Nat) (h : RunS t ρ (.nx ρ1)) : RunS t ρ (.nx (ρ1.set i none)) := fun B σ H D S q => h B σ H D S fun σ1 H1 S1 => q σ1 H1 (S1.forget i)
theorem rs_nx {ρ2 : Rho} (e : ρ1 = ρ2) (h : RunS t ρ (.nx ρ1)) : RunS t ρ (.nx ρ2) := e ▸ h
theorem rs_to {x y : SV} (e : x = y) (h : RunS t ρ (.rt x)) : RunS t ρ (.rt y) := e ▸ h
theorem rs_at {ρ2 : Rho} (e : ρ = ρ2) (h : RunS t ρ2 o) : RunS t ρ o := e ▸ h
theorem es_to {x y : SV} (e : x = y) (h : EvS te ρ x) : EvS te ρ y := e ▸ h
theorem et_to {tt : TT} {a b : Bool} (e : a = b) (h : EvT tt ρ a) : EvT tt ρ b := e ▸ h
/-- a loop over encoded items whose turns all go on; f: the slots behind so many items -/
theorem for_map {α : Type} {enc : α → PyData} {f : List α → Rho} : ∀ (l pre : List α), (∀ p a r, pre ++ l = p ++ a :: r → TurnS g t (f p) (enc a) (.nx (f (p ++ [a])))) → ForS g t (f pre) (l.map enc) (.nx (f (pre ++ l)))
  | [], pre, _ => by rw [List.append_nil]; exact .nil
  | a :: l, pre, h => by
    have ih := for_map l (pre ++ [a]) fun p e r q => h p e r (by rw [← q, List.append_assoc] <;> rfl)
    rw [List.append_assoc] at ih
    exact .cons (h pre a l rfl) ih
theorem for_enc {α : Type} {enc : α → PyData} {f : List α → Rho} {l : List α} (h : ∀ p a r, l = p ++ a :: r → TurnS g t (f p) (enc a) (.nx (f (p ++ [a])))) : ForS g t (f []) (l.map enc) (.nx (f l)) := for_map l [] h
/-- [elt for target in ..], every item -/
theorem es_mapT {α : Type} {enc h : α → PyData} {vs : List Nat} {l : List α} (ha : EvS ta ρ (.im (.tuple (l.map enc)))) (el : ∀ a ∈ l, ∃ ρ1, LcT (vs.foldr (fun i r => r.set i none) ρ) g vs (enc a) ρ1 ∧ EvS te ρ1 (.im (h a))) (hl : l.length < 100000) :
    EvS (tLc (iTup K ta) g tYes te vs) ρ (.own (l.map h)) := by
  have := es_lcT (K := K) (f := fun a => some (h a)) ha (fun a m => by
    obtain ⟨ρ1, b, c⟩ := el a m
    exact ⟨ρ1, b, lc_yes c⟩) hl
  rw [filterMap_some] at this
  exact this
theorem es_mapL {α : Type} {enc h : α → PyData} {vs : List Nat} {l : List α} (ha : EvS ta ρ x) (ex : x.arg = .ro (l.map enc)) (el : ∀ a ∈ l, ∃ ρ1, LcT (vs.foldr (fun i r => r.set i none) ρ) g vs (enc a) ρ1 ∧ EvS te ρ1 (.im (h a))) (hl : l.length < 100000) (px : x.plain = true := by rfl) :
    EvS (tLc (iList K ta) g tYes te vs) ρ (.own (l.map h)) := by
  have := es_lcL (K := K) (f := fun a => some (h a)) ha ex (fun a m => by
    obtain ⟨ρ1, b, c⟩ := el a m
    exact ⟨ρ1, b, lc_yes c⟩) hl px
  rw [filterMap_some] at this
  exact this
theorem es_mapS {h : Nat → PyData} {vs : List Nat} {s : Str} (ha : EvS ta ρ (.im (.str s))) (el : ∀ c ∈ s.cps.toList, ∃ ρ1, LcT (vs.foldr (fun i r => r.set i none) ρ) g vs (.str ⟨#[c]⟩) ρ1 ∧ EvS te ρ1 (.im (h c))) (hl : s.cps.toList.length < 100000) :
    EvS (tLc (iStr ta) g tYes te vs) ρ (.own (s.cps.toList.map h)) := by
  have := es_lcS (f := fun a => some (h a)) ha (fun a m => by
    obtain ⟨ρ1, b, c⟩ := el a m
    exact ⟨ρ1, b, lc_yes c⟩) hl
  rw [filterMap_some] at this
  exact this
/-! ### texts -/
theorem s_split {a b : Str} (h1 : (b.length == 0) = false) (h2 : a.length ≤ 100000) {te2 : TE} (h : EvS te ρ (.im (.str a))) (hb : EvS te2 ρ (.im (.str b))) :
    EvS (tM1 (fun x xs H Q => ∃ a b, x = .str a ∧ xs = [.str b] ∧ (b.length == 0) = false ∧ a.length + 2 ≤ sizeLine ∧ rNewStrs (Txt.split a b) H Q) te te2) ρ (.own ((Txt.split a b).map .str)) := fun B σ H Q S q =>
  h B σ H _ S fun v H1 g1 r1 => by
    cases Im.str_v r1
    refine ⟨⟨a, rfl⟩, hb B σ H1 _ (S.grow g1) fun w H2 g2 r2 => ?_⟩
    cases Im.str_v r2
    refine ⟨a, b, rfl, rfl, h1, by rw [sizeLine_eq]; omega, fun p hp => ?_⟩
    have g3 := Gr.new (.lst ((Txt.split a b).map V.str)) hp
    refine q _ _ ((g1.trans g2).trans g3) ⟨p, _, rfl, g1.back (g2.back hp), upd_same, ?_⟩
    exact strs_ims _
where strs_ims {H : Hp} : ∀ l : List Str, Ims H (l.map V.str) (l.map .str)
  | [] => .nil
  | s :: r => .cons (.str s) (strs_ims r)
theorem strs_of {H : Hp} : ∀ {vs : List V} {l : List Str}, Ims H vs (l.map .str) → vs = l.map V.str
  | _, [], .nil => rfl
  | _, s :: l, .cons a r => by rw [a.str_v, strs_of r] <;> rfl
def xJoin (K : PySem.W.Frag) : V → List V → Hp → VK → Prop := fun x xs H Q => ∃ a p, ∃ ys : List Str, x = .str a ∧ xs = [.ref p] ∧ (SqL K H p (ys.map V.str) ∨ SqT K H p (ys.map V.str)) ∧
      (ys.map (·.length)).sum + ys.length * a.length ≤ 16777216 ∧ Q (.str (Txt.join a ys)) H
theorem r_join {X : Cx} {o e : Expr} {to te : TE} {apos pos : Pos} (ho : PE X o to) (he : PE X e te) (hs : starEach [e] X.env = [(false, eval e X.env)] := by rfl) (hbase : attributeBase o "join" X.env (eval o X.env) = eval o X.env := by rfl) (hline : (apos.endLine == pos.line) = true := by rfl) :
    PE X (.Call (.Attribute o "join" apos) [e] [] pos) (tM1 (xJoin X.K) to te) := pe_join ho he hs hbase hline
theorem s_join {a : Str} {ys : List Str} {te2 : TE} (h : EvS te ρ (.im (.str a))) (hb : EvS te2 ρ x) (ex : x.arg = .ro (ys.map .str)) (hl : (ys.map (·.length)).sum + ys.length * a.length ≤ 16777216) (px : x.plain = true := by rfl) :
    EvS (tM1 (xJoin K) te te2) ρ (.im (.str (Txt.join a ys))) := fun B σ H Q S q => h B σ H _ S fun v H1 g1 r1 => by
  cases Im.str_v r1
  refine ⟨⟨a, rfl⟩, hb B σ H1 _ (S.grow g1) fun w H2 g2 r2 => ?_⟩
  have r := r2.asArg px
  rw [ex] at r
  obtain ⟨p, ws, rfl, e, r⟩ := r
  exact ⟨a, p, ys, rfl, rfl, .inl (strs_of r ▸ SqL.of e), hl, q _ _ (g1.trans g2) (.str _)⟩
def xStarts : V → List V → Hp → VK → Prop := fun x xs H Q => ∃ a b, x = .str a ∧ xs = [.str b] ∧ Q (.bl (Txt.startswith a b)) H
theorem r_starts {X : Cx} {o e : Expr} {to te : TE} {apos pos : Pos} (ho : PE X o to) (he : PE X e te) (hs : starEach [e] X.env = [(false, eval e X.env)] := by rfl) (hbase : attributeBase o "startswith" X.env (eval o X.env) = eval o X.env := by rfl) (hline : (apos.endLine == pos.line) = true := by rfl) :
    PE X (.Call (.Attribute o "startswith" apos) [e] [] pos) (tM1 xStarts to te) := pe_m1 F.slot_str_startswith F.type_str_startswith mt_startswith ho he hs hbase hline
theorem s_starts {a b : Str} {te2 : TE} (h : EvS te ρ (.im (.str a))) (hb : EvS te2 ρ (.im (.str b))) : EvS (tM1 xStarts te te2) ρ (.im (.bool (Txt.startswith a b))) := fun B σ H Q S q =>
  h B σ H _ S fun v H1 g1 r1 => by
    cases Im.str_v r1
    refine ⟨⟨a, rfl⟩, hb B σ H1 _ (S.grow g1) fun w H2 g2 r2 => ?_⟩
    cases Im.str_v r2
    exact ⟨a, b, rfl, rfl, q _ _ (g1.trans g2) (.bl _)⟩
/-- s[a:] -/
theorem s_cutS {s : Str} {i : Int} (h : EvS te ρ (.im (.str s))) (hi : EvS ta ρ (.im (.int i))) (hl : s.length ≤ 100000) : EvS (tSl rSlS te (tPart ta) tNoPart) ρ (.im (.str (cutS s (some i) none))) := fun B σ H Q S q =>
  h B σ H _ S fun v H1 g1 r1 => hi B σ H1 _ (S.grow g1) fun w H2 g2 r2 => by
    cases Im.str_v r1
    cases Im.int_v r2
    exact ⟨i, rfl, s, rfl, by rw [sizeLine_eq]; omega, q _ _ (g1.trans g2) (.str _)⟩
/-! ### a def of data -/
section
variable {P : Program} {w : World} {mg : Str → Option Value} {base : Heap}
theorem start_St {H : Hp} {N : List Str} {vs : List V} {xs : List SV} (h : Paired (SH H H) vs xs) (hl : xs.length ≤ N.length) : St H (start N vs) H (xs.map some ++ List.replicate (N.length - xs.length) none) := by
  have len : ∀ {vs : List V} {xs : List SV}, Paired (SH H H) vs xs → vs.length = xs.length := fun h => by
    induction h with
    | nil => rfl
    | cons _ _ ih => exact congrArg (· + 1) ih
  have l := len h
  have get : ∀ {vs : List V} {xs : List SV}, Paired (SH H H) vs xs → ∀ (i : Nat) (x : SV), xs[i]? = some x → ∃ v, vs[i]? = some v ∧ SH H H v x := fun h => by
    induction h with
    | nil => intro i x e; simp at e
    | cons a _ ih =>
      intro i x e
      cases i with
      | zero => cases e; exact ⟨_, rfl, a⟩
      | succ i => exact ih i x e
  have fst : ∀ (i : Nat) (x : SV), (xs.map some ++ List.replicate (N.length - xs.length) none)[i]? = some (some x) → xs[i]? = some x := fun i x e => by
    rw [List.getElem?_append] at e
    by_cases c : i < (xs.map some).length
    · rw [if_pos c, List.getElem?_map] at e
      obtain ⟨y, hy, ey⟩ := Option.map_eq_some_iff.mp e
      cases ey
      exact hy
    · rw [if_neg c, List.getElem?_replicate] at e
      split at e
      · cases e
      · cases e
  refine ⟨.refl H, by unfold L2.start; rw [List.length_append, List.length_append, List.length_map, List.length_map, List.length_replicate, List.length_replicate, l], fun i x e => ?_, fun i j x y v _ ex mx _ _ _ => ?_⟩
  · have e1 := fst i x e
    obtain ⟨v, hv, r⟩ := get h i x e1
    refine ⟨v, ?_, r⟩
    unfold L2.start
    rw [List.getElem?_append_left (by rw [List.length_map]; exact (List.getElem?_eq_some_iff.mp hv).1), List.getElem?_map, hv] <;> rfl
  · obtain ⟨v', hv, r⟩ := get h i x (fst i x ex)
    obtain ⟨a, u, _, n, e, _⟩ := r.mutB mx
    rw [n] at e
    cases e
/-- THE RULE of a def of data: its derivation, what its reading does -/
theorem fn_data {x qual : Str} {st : Stmt} {f : Addr} {fd : FuncData} {N ps : List Str} {k : Nat} {R : List SV → SV → Prop} {t : TS} (F : L2.Fun K x qual st f fd) (sc : FnScope N ps (defScope st)) (len : ∀ xs z, R xs z → xs.length = ps.length) (hps : ps.length ≤ N.length)
    (hb : ∀ (cdv : Value) (A : Around) (outer : List Env) (s : Shared) (H : Hp) (E : XK), Room k (A.deeper (envOfC qual (defScope st) s.heap.objs.size f cdv)) → PSs (cxOf CX0 P w K mg base N qual (defScope st) f cdv A outer s H E).nox (defBody st) t)
    (hr : ∀ xs z, R xs z → RunS t (xs.map some ++ List.replicate (N.length - xs.length) none) (.rt z)) : FnOk P w K mg base CX0 (k + 1) f fd ps (spD R) := by
  have plen : ∀ {H : Hp} {vs : List V} {xs : List SV}, Paired (SH H H) vs xs → vs.length = xs.length := fun h => by
    induction h with
    | nil => rfl
    | cons _ _ ih => exact congrArg (· + 1) ih
  refine F.ok sc (fun vs H Q E h => ?_) fun cdv A outer s H vs Q E hR h => ⟨t, hb cdv A outer s H E hR, ?_⟩
  · obtain ⟨xs, z, hx, r, _⟩ := h
    exact (plen hx).trans (len xs z r)
  · obtain ⟨xs, z, hx, r, q⟩ := h
    exact hr xs z r H _ H _ (start_St hx (by rw [len xs z r]; exact hps)) fun v H' g i => q v H' g i
end
end DL
/-! ==== DL5 -/
set_option maxRecDepth 100000
set_option maxHeartbeats 4000000
/-! What the head tells, as one structure; a def of the program as a datum; calls. -/
namespace K91
open PySem PySem.Spec PyProof.Rows L2 SG DL
structure Tx (K : PySem.W.Frag) (mg : Str → Option Value) : Prop where
  fn : ∀ (i : Nat) (d : He.DefD), fn0[i]? = some d → ∃ fd, FunD K d.name d.qual d.params d.body d.scope (d.dvs K) (d.kws K) (He.fAd K d.at_) fd
  fa : ∀ (i : Nat) (f : He.Fa), fa0[i]? = some f → f.ok K = true
  xa : ∀ (i : Nat) (f : PySem.W.Frag → Bool), xa0[i]? = some f → f K = true
  at_ : ∃ h, K.In h ∧ h.Ns mainGlobals mg
variable {K : PySem.W.Frag} {mg : Str → Option Value}
theorem Tx.glo (T : Tx K mg) (i : Nat) {x : Str} (h : fa0[i]? = some (.glo x)) : mg x = some (.ref (He.ga K x)) := by
  obtain ⟨_, X, G⟩ := T.at_
  exact He.glo_ok X G (T.fa i _ h)
theorem Tx.free (T : Tx K mg) (i : Nat) {x : Str} (h : fa0[i]? = some (.free x)) : mg x = none := by
  obtain ⟨_, X, G⟩ := T.at_
  exact He.free_ok X G (T.fa i _ h)
theorem Tx.int (T : Tx K mg) (i : Nat) {x : Str} {n : Int} (h : fa0[i]? = some (.int x n)) : ∃ t, mg x = some (.int n t) := by
  obtain ⟨_, X, G⟩ := T.at_
  exact He.int_ok X G (T.fa i _ h)
theorem Tx.str (T : Tx K mg) (i : Nat) {x z : Str} (h : fa0[i]? = some (.str x z)) : ∃ t, mg x = some (.str z t) := by
  obtain ⟨_, X, G⟩ := T.at_
  exact He.str_ok X G (T.fa i _ h)
theorem Tx.cls (T : Tx K mg) (i : Nat) {x : Str} (h : fa0[i]? = some (.cls x)) : Cls K (He.ga K x) := He.cls_ok (T.fa i _ h)
theorem Tx.noat (T : Tx K mg) (i : Nat) {x f : Str} (h : fa0[i]? = some (.noat x f)) : NoAttr K (He.ga K x) f := He.noat_ok (T.fa i _ h)
theorem Tx.meth (T : Tx K mg) (i : Nat) {x m : Str} (h : fa0[i]? = some (.meth x m)) : Meth K (He.ga K x) m (He.ma K (He.ga K x) m) := He.meth_ok (T.fa i _ h)
theorem Tx.mkr (T : Tx K mg) (i : Nat) {x : Str} (h : fa0[i]? = some (.mkr x)) : Mk K (He.ga K x) (He.ma K (He.ga K x) "__init__") := He.mkr_ok (T.fa i _ h)
theorem Tx.tup (T : Tx K mg) (i : Nat) {x : Str} {vs : List He.Dv} (h : xa0[i]? = some (fun K => He.tupB K x vs)) (H : Hp) : SqT K H (He.ga K x) (vs.map (He.Dv.v K)) := He.tupB_ok (T.xa i _ h) H
theorem Tx.same (T : Tx K mg) (i : Nat) {c d m : Str} (h : xa0[i]? = some (fun K => sameM K c d m)) : He.ma K (He.ga K c) m = He.ma K (He.ga K d) m := of_decide_eq_true (T.xa i _ h)
theorem pe_gint {X : Cx} {x : Str} {n : Int} {pos : Pos} (hg : Gl X x) (hm : ∃ t, X.mg x = some (.int n t)) (hd : (x == Str.ofString "__debug__") = false := by rfl) : PE X (.Name x pos) (tC (.int n)) := by
  obtain ⟨t, e⟩ := hm
  exact pe_glob hg e ⟨_, rfl⟩ hd
theorem pe_gstr {X : Cx} {x z : Str} {pos : Pos} (hg : Gl X x) (hm : ∃ t, X.mg x = some (.str z t)) (hd : (x == Str.ofString "__debug__") = false := by rfl) : PE X (.Name x pos) (tC (.str z)) := by
  obtain ⟨t, e⟩ := hm
  exact pe_glob hg e ⟨_, rfl⟩ hd
theorem units65 {k : Nat} {A : Around} (r : Room k A) : A.units + 65 < cLine := by
  have := r.un
  omega
/-- the def d keeps the promise sp -/
def Ok (P : Program) (w : World) (K : PySem.W.Frag) (mg : Str → Option Value) (base : Heap) (CX : CXT) (k : Nat) (d : He.DefD) (ps : List Str) (sp : Sp) : Prop :=
  ∃ fd, FnOk P w K mg base CX k (He.fAd K d.at_) fd ps sp ∧ L2.Binds K fd ps [] ∧ PySem.W.keepIn K (.ref (He.fAd K d.at_)) = true
theorem pe_own {X : Cx} {CX : CXT} {k : Nat} {d : He.DefD} {ps : List Str} {sp : Sp} {E : XK} {x : Str} {p pos : Pos} {e : Expr} {es : List Expr} {t : TA} (O : Ok X.prog X.w X.K X.mg X.base CX k d ps sp) (hr : Room k X.A) (hg : Gl X x)
    (hm : X.mg x = some (.ref (He.fAd X.K d.at_))) (hx : Passes CX X E) (ha : PA X (e :: es) t) (hd : (x == Str.ofString "__debug__") = false := by rfl) (h1 : starEach (e :: es) X.env = (false, eval e X.env) :: starEach es X.env := by rfl)
    (h2 : ((backTo pos (starEach es X.env)).any fun x => x.1) = false := by rfl) : PE X (.Call (.Name x p) (e :: es) [] pos) (tCall sp [] E t) := by
  obtain ⟨fd, F, hb, hk⟩ := O
  exact pe_call F hr hg hm hk hb .nil hx ha hd h1 h2
variable {P : Program} {w : World} {base : Heap}
/-- a def ends: it hands z back, or it runs out -/
inductive RunE (t : TS) (ρ : Rho) : SV → Prop
  | rt {z : SV} : RunS t ρ (.rt z) → RunE t ρ z
  | nx {ρ1 : Rho} : RunS t ρ (.nx ρ1) → RunE t ρ (.im .none)
theorem ok_data {d : He.DefD} {fd : FuncData} {N ps : List Str} {k : Nat} {R : List SV → SV → Prop} {t : TS} (F : FunD K d.name d.qual d.params d.body d.scope [] [] (He.fAd K d.at_) fd) (sc : FnScope N ps d.scope)
    (hbind : ∀ (kV doc pm : Value) (an : Option Addr) (cdv ct : Value) (us : List Value), us.length = ps.length → bindArgs (PySem.W.fnOf d.name d.qual d.params d.body d.scope .none kV doc pm an cdv ct) { pos := us } = pure (ps.zip us))
    (len : ∀ xs z, R xs z → xs.length = ps.length) (hps : ps.length ≤ N.length)
    (hb : ∀ (cdv : Value) (A : Around) (outer : List Env) (s : Shared) (H : Hp) (E : XK), Room k (A.deeper (envOfC d.qual d.scope s.heap.objs.size (He.fAd K d.at_) cdv)) → PSs (cxOf CX0 P w K mg base N d.qual d.scope (He.fAd K d.at_) cdv A outer s H E).nox d.body t)
    (hr : ∀ xs z, R xs z → RunE t (xs.map some ++ List.replicate (N.length - xs.length) none) z) : Ok P w K mg base CX0 (k + 1) d ps (spD R) := by
  have plen : ∀ {H : Hp} {vs : List V} {xs : List SV}, Paired (SH H H) vs xs → vs.length = xs.length := fun h => by
    induction h with
    | nil => rfl
    | cons _ _ ih => exact congrArg (· + 1) ih
  refine ⟨fd, F.ok sc (fun vs H Q E h => ?_) (fun cdv A outer s H vs Q E hR h => ⟨t, PSs.nox (hb cdv A outer s H E hR), ?_⟩), F.bindsN hbind, F.kp⟩
  · obtain ⟨xs, z, hx, r, _⟩ := h
    exact (plen hx).trans (len xs z r)
  · obtain ⟨xs, z, hx, r, q⟩ := h
    have S := start_St hx (N := N) (by rw [len xs z r]; exact hps)
    cases hr xs z r with
    | rt h => exact h H _ H _ S fun v H' g i => q v H' g i
    | nx h => exact h H _ H _ S fun σ1 H1 S1 => q .non H1 S1.gr .non
/-- a def of data, what comes back told by a property -/
def spP (R : List SV → (V → Hp → Prop) → Prop) : Sp := fun vs H Q _ => ∃ xs Po, Paired (SH H H) vs xs ∧ R xs Po ∧ ∀ v H', Gr H H' → Po v H' → Q v H'
theorem ok_dataP {d : He.DefD} {fd : FuncData} {N ps : List Str} {k : Nat} {R : List SV → (V → Hp → Prop) → Prop} {t : TS} (F : FunD K d.name d.qual d.params d.body d.scope [] [] (He.fAd K d.at_) fd) (sc : FnScope N ps d.scope)
    (hbind : ∀ (kV doc pm : Value) (an : Option Addr) (cdv ct : Value) (us : List Value), us.length = ps.length → bindArgs (PySem.W.fnOf d.name d.qual d.params d.body d.scope .none kV doc pm an cdv ct) { pos := us } = pure (ps.zip us))
    (len : ∀ xs z, R xs z → xs.length = ps.length) (hps : ps.length ≤ N.length)
    (hb : ∀ (cdv : Value) (A : Around) (outer : List Env) (s : Shared) (H : Hp) (E : XK), Room k (A.deeper (envOfC d.qual d.scope s.heap.objs.size (He.fAd K d.at_) cdv)) → PSs (cxOf CX0 P w K mg base N d.qual d.scope (He.fAd K d.at_) cdv A outer s H E).nox d.body t)
    (hr : ∀ xs Po, R xs Po → RunS t (xs.map some ++ List.replicate (N.length - xs.length) none) (.rp Po)) : Ok P w K mg base CX0 (k + 1) d ps (spP R) := by
  have plen : ∀ {H : Hp} {vs : List V} {xs : List SV}, Paired (SH H H) vs xs → vs.length = xs.length := fun h => by
    induction h with
    | nil => rfl
    | cons _ _ ih => exact congrArg (· + 1) ih
  refine ⟨fd, F.ok sc (fun vs H Q E h => ?_) (fun cdv A outer s H vs Q E hR h => ⟨t, PSs.nox (hb cdv A outer s H E hR), ?_⟩), F.bindsN hbind, F.kp⟩
  · obtain ⟨xs, z, hx, r, _⟩ := h
    exact (plen hx).trans (len xs z r)
  · obtain ⟨xs, z, hx, r, q⟩ := h
    exact hr xs z r H _ H _ (start_St hx (N := N) (by rw [len xs z r]; exact hps)) fun v H' g i => q v H' g i
theorem rs_ifRt {tc : TT} {t u v : TS} {ρ : Rho} {x : SV} (hc : EvT tc ρ true) (h : RunS t ρ (.rt x)) : RunS (tSeq (tIfS tc t u) v) ρ (.rt x) := rs_seqRt (rs_if hc (fun _ => h) fun z => nomatch z)
theorem rs_ifNo {tc : TT} {t v : TS} {ρ : Rho} {o : Out} (hc : EvT tc ρ false) (h : RunS v ρ o) : RunS (tSeq (tIfS tc t tNext) v) ρ o := rs_seq (rs_if hc (fun z => nomatch z) fun _ => rs_next) h
theorem rs_ifT {tc : TT} {t u : TS} {ρ : Rho} {o : Out} (hc : EvT tc ρ true) (h : RunS t ρ o) : RunS (tIfS tc t u) ρ o := rs_if hc (fun _ => h) fun z => nomatch z
theorem rs_ifF {tc : TT} {t u : TS} {ρ : Rho} {o : Out} (hc : EvT tc ρ false) (h : RunS u ρ o) : RunS (tIfS tc t u) ρ o := rs_if hc (fun z => nomatch z) fun _ => h
def xSplit : V → List V → Hp → VK → Prop := fun x xs H Q => ∃ a b, x = .str a ∧ xs = [.str b] ∧ (b.length == 0) = false ∧ a.length + 2 ≤ sizeLine ∧ rNewStrs (Txt.split a b) H Q
end K91
/-! ==== K1 -/
set_option maxRecDepth 100000
set_option maxHeartbeats 4000000
namespace K91
open PySem PySem.Spec PyProof.Rows L2 SG DL
variable {P : Program} {w : World} {K : PySem.W.Frag} {mg : Str → Option Value} {base : Heap}
abbrev Shp := DL.Shape
def hasB (s : Shp) (c : Cell) : Bool := decide (c ∈ s.1) != s.2
theorem eqv_bool (a b : Bool) : PyData.eqv (.bool a) (.bool b) = (a == b) := by simp [PyData.eqv]
/-- the keys of a dict of cells, put one by one -/
def keysOf (l : List Cell) : List Cell := l.foldl (fun ks c => if c ∈ ks then ks else ks ++ [c]) []
theorem keysOf_more (l : List Cell) (c : Cell) : keysOf (l ++ [c]) = if c ∈ keysOf l then keysOf l else keysOf l ++ [c] := by unfold keysOf; rw [List.foldl_append] <;> rfl
theorem keysOf_all (l k : List Cell) : ∀ c, (c ∈ l.foldl (fun ks c => if c ∈ ks then ks else ks ++ [c]) k) ↔ c ∈ k ∨ c ∈ l := by
  induction l generalizing k with
  | nil => intro c; simp
  | cons a l ih =>
    intro c
    rw [List.foldl_cons, ih]
    by_cases h : a ∈ k
    · rw [if_pos h, List.mem_cons]
      constructor
      · rintro (z | z)
        · exact .inl z
        · exact .inr (.inr z)
      · rintro (z | z | z)
        · exact .inl z
        · exact .inl (z ▸ h)
        · exact .inr z
    · rw [if_neg h, List.mem_append, List.mem_singleton, List.mem_cons]
      constructor
      · rintro ((z | z) | z)
        · exact .inl z
        · exact .inr (.inl z)
        · exact .inr (.inr z)
      · rintro (z | z | z)
        · exact .inl (.inl z)
        · exact .inl (.inr z)
        · exact .inr z
theorem mem_keysOf {l : List Cell} {c : Cell} : c ∈ keysOf l ↔ c ∈ l := by
  have := keysOf_all l [] c
  simpa [keysOf] using this
theorem keysOf_len (l : List Cell) : (keysOf l).length ≤ l.length := by
  have : ∀ k : List Cell, (l.foldl (fun ks c => if c ∈ ks then ks else ks ++ [c]) k).length ≤ k.length + l.length := by
    induction l with
    | nil => intro k; simp
    | cons a l ih =>
      intro k
      rw [List.foldl_cons, List.length_cons]
      refine Nat.le_trans (ih _) ?_
      split
      · omega
      · rw [List.length_append, List.length_singleton]; omega
  have h := this []
  simpa [keysOf] using h
def onlyIn (one other : List Cell) : List Cell := one.filter fun c => !decide (c ∈ other)
def outF (s : Shp) : Shp := (s.1, !s.2)
def bothF (a b : Shp) : Shp := if a.2 && b.2 then (rise (a.1 ++ b.1), true) else if a.2 then (onlyIn b.1 a.1, false) else if b.2 then (onlyIn a.1 b.1, false) else (onlyIn a.1 (onlyIn a.1 b.1), false)
def eitherF (a b : Shp) : Shp := outF (bothF (outF a) (outF b))
def mvC (c d : Cell) : Cell := (c.1 + d.1, c.2 + d.2)
def lsC (c d : Cell) : Cell := (c.1 - d.1, c.2 - d.2)
def mvF (s : Shp) (d : Cell) : Shp := (s.1.map fun c => mvC c d, s.2)
theorem map_csD (l : List Cell) (f : Cell → Cell) : PyData.tuple (l.map fun c => cD (f c)) = csD (l.map f) := by unfold csD; rw [List.map_map] <;> rfl
theorem filter_map_if {α β : Type} (p : α → Bool) (f : α → β) (l : List α) : l.filterMap (fun c => if p c = true then some (f c) else none) = (l.filter p).map f := by
  induction l with
  | nil => rfl
  | cons a l ih =>
    by_cases h : p a = true
    · rw [List.filterMap_cons_some (by rw [if_pos h]), List.filter_cons_of_pos h, List.map_cons, ih]
    · rw [List.filterMap_cons_none (by rw [if_neg h]), List.filter_cons_of_neg h, ih]
theorem onlyIn_len (a b : List Cell) : (onlyIn a b).length ≤ a.length := List.length_filter_le _ _

/-! ### rising -/
def R_rising : List SV → SV → Prop := fun xs z => ∃ (cs : List Cell) (x : SV), xs = [x] ∧ (x = .ro (cs.map cD) ∨ x = .im (csD cs)) ∧ cs.length ≤ 300 ∧ z = .im (csD (rise cs))
theorem sc_rising : FnScope ["cells"] ["cells"] (defScope s_rising) := ⟨rfl, rfl, rfl, by decide +kernel, rfl, by decide +kernel, by decide +kernel⟩
def t_rising (K : PySem.W.Frag) (P : Program) (w : World) : TS := tRet (tCB (xTuple K) (tCons (tCB (rSortS K P w) (tCons (tCB (rSet K P w) (tCons (tVar 0) (tNil))) (tNil))) (tNil)))
theorem len_rising : ∀ xs z, R_rising xs z → xs.length = 1 := by
  rintro xs z ⟨_, _, rfl, _⟩
  rfl
theorem run_rising : ∀ xs z, R_rising xs z → RunS (t_rising K P w) (xs.map some ++ List.replicate (1 - xs.length) none) (.rt z) := by
  rintro xs z ⟨cs, x, rfl, hx, hl, rfl⟩
  rcases hx with rfl | rfl
  · exact rs_ret (es_cb (ea_cons (es_sortedSet (cs := cs) (x := .ro (cs.map cD)) (es_var (x := .ro (cs.map cD)) rfl rfl) (.inl rfl) hl) ea_nil) (c_tuple rfl))
  · exact rs_ret (es_cb (ea_cons (es_sortedSet (cs := cs) (x := .im (csD cs)) (es_im rfl) (.inr rfl) hl) ea_nil) (c_tuple rfl))
theorem O_rising (T : Tx K mg) : Ok P w K mg base CX0 1 d_rising ["cells"] (spD R_rising) := by
  obtain ⟨fd, F⟩ := T.fn 3 d_rising rfl
  exact ok_data (t := t_rising K P w) F sc_rising (fun _ _ _ _ _ _ us hl => match us, hl with | [_], _ => rfl) (len_rising) (by decide) (fun cdv A outer s H E hr => pss_one (ps_ret (pe_callTy r_tuple rfl (T.free 67 rfl) boot_tuple (pa_cons (pe_callB (cr_sortS rfl hr.units) rfl (T.free 66 rfl) boot_sorted (pa_cons (pe_callTy (cr_set rfl hr.units) rfl (T.free 65 rfl) boot_set (pa_cons (pv 0) (pa_nil))) (pa_nil))) (pa_nil))))) (fun xs z h => .rt (run_rising (P := P) (w := w) (K := K) xs z h))

/-! ### has -/
def R_has : List SV → SV → Prop := fun xs z => ∃ (s : Shp) (c : Cell), xs = [.im (shD s), .im (cD c)] ∧ z = .im (.bool (hasB s c))
theorem sc_has : FnScope ["shape", "cell", "cells", "rest"] ["shape", "cell"] (defScope s_has) := ⟨rfl, rfl, rfl, by decide +kernel, rfl, by decide +kernel, by decide +kernel⟩
def t_has (K : PySem.W.Frag) (P : Program) (w : World) : TS := tSeq (tAsg (tVar 0) (gTup K 2 (gCons (gName 2) (gCons (gName 3) (gNil))))) (tRet (tOp (rNeD K) (tOp (xIn K false) (tVar 1) (tVar 2)) (tVar 3)))
theorem len_has : ∀ xs z, R_has xs z → xs.length = 2 := by
  rintro xs z ⟨_, _, rfl, _⟩
  rfl
theorem run_has : ∀ xs z, R_has xs z → RunS (t_has K P w) (xs.map some ++ List.replicate (4 - xs.length) none) (.rt z) := by
  rintro xs z ⟨s, c, rfl, rfl⟩
  refine rs_to ?_ (rs_seq (rs_asg2 (es_im rfl)) (rs_ret (es_op (es_op (es_im rfl) (es_im rfl) (s_in (cD_shaped c) (csD_shaped s.1))) (es_im rfl) (s_ne rfl rfl (bool_shaped _) (bool_shaped _)))))
  simp only [SV.dat, any_cell, eqv_bool, hasB]
  rfl
theorem O_has (T : Tx K mg) : Ok P w K mg base CX0 1 d_has ["shape", "cell"] (spD R_has) := by
  obtain ⟨fd, F⟩ := T.fn 4 d_has rfl
  exact ok_data (t := t_has K P w) F sc_has (fun _ _ _ _ _ _ us hl => match us, hl with | [_, _], _ => rfl) (len_has) (by decide) (fun cdv A outer s H E hr => pss_cons (ps_asg (pv 0) (pg_tup rfl (pgs_cons (pg_name (i := 2) sc_has.nd rfl (by first | exact Or.inl rfl | exact Or.inr rfl)) (pgs_cons (pg_name (i := 3) sc_has.nd rfl (by first | exact Or.inl rfl | exact Or.inr rfl)) (pgs_nil))))) (pss_one (ps_ret (pe_cmpR (op_neD hr.units) (pe_cmpR (o_in (units65 hr)) (pv 1) (pv 2) rfl) (pv 3) (nomark _))))) (fun xs z h => .rt (run_has (P := P) (w := w) (K := K) xs z h))

/-! ### only_in -/
def R_only_in : List SV → SV → Prop := fun xs z => ∃ (one other : List Cell), xs = [.im (csD one), .im (csD other)] ∧ one.length < 100000 ∧ other.length < 100000 ∧ z = .im (csD (onlyIn one other))
theorem sc_only_in : FnScope ["one", "other", "seen", "cell"] ["one", "other"] (defScope s_only_in) := ⟨rfl, rfl, rfl, by decide +kernel, rfl, by decide +kernel, by decide +kernel⟩
def t_only_in (K : PySem.W.Frag) (P : Program) (w : World) : TS := tSeq (tAsg (tDNewT) (gName 2)) (tSeq (tFor (iTup K (tVar 1)) (gName 3) (sDPut (tVar 2) (tVar 3) (tC (.bl true)))) (tRet (tCB (xTuple K) (tCons (tLc (iTup K (tVar 0)) (gName 3) (tB (tDNotIn (tVar 3) (tVar 2))) (tVar 3) [3]) (tNil)))))
theorem len_only_in : ∀ xs z, R_only_in xs z → xs.length = 2 := by
  rintro xs z ⟨_, _, rfl, _⟩
  rfl
theorem run_only_in : ∀ xs z, R_only_in xs z → RunS (t_only_in K P w) (xs.map some ++ List.replicate (4 - xs.length) none) (.rt z) := by
  rintro xs z ⟨one, other, rfl, h1, h2, rfl⟩
  refine rs_seq (rs_asg es_dnew) (rs_seq (rs_forT (ds := other.map cD) (es_im rfl) (for_enc (f := fun p => [some (.im (csD one)), some (.im (csD other)), some (.dic (keysOf p)), none]) fun p a r e => turn_name (rs_nx ?_ (rs_clear 3 (rs_dput rfl (es_im rfl) es_bl ?_)))))
    (rs_to ?_ (rs_ret (es_cb (ea_cons (es_lcT (enc := cD) (f := fun c => if !decide (c ∈ keysOf other) then some (cD c) else none) (es_im rfl) (fun c _ => ⟨_, .name 3 _, lc_if (et_B (es_dnotin rfl (es_im rfl))) (fun _ => es_im rfl)⟩) h1) ea_nil) (c_tuple rfl)))))
  · rw [keysOf_more]
    rfl
  · have := keysOf_len p
    have l : p.length ≤ other.length := by rw [e, List.length_append]; omega
    omega
  · rw [filter_map_if]
    simp only [mem_keysOf]
    rfl
theorem O_only_in (T : Tx K mg) : Ok P w K mg base CX0 1 d_only_in ["one", "other"] (spD R_only_in) := by
  obtain ⟨fd, F⟩ := T.fn 5 d_only_in rfl
  exact ok_data (t := t_only_in K P w) F sc_only_in (fun _ _ _ _ _ _ us hl => match us, hl with | [_, _], _ => rfl) (len_only_in) (by decide) (fun cdv A outer s H E hr => pss_cons (ps_set (i := 2) sc_only_in.nd rfl (by first | exact Or.inl rfl | exact Or.inr rfl) (pe_dnewT)) (pss_cons (ps_for PassesOwn.never rfl (pi_tup (pv 1)) (pg_name (i := 3) sc_only_in.nd rfl (by first | exact Or.inl rfl | exact Or.inr rfl)) (pss_one (ps_dput (hu_of hr) (pv 2) (pv 3) (pe_bl) rfl))) (pss_one (ps_ret (pe_callTy r_tuple rfl (T.free 67 rfl) boot_tuple (pa_cons (pe_lc (own := [("cell", 3)]) (g := gName 3) (tt := tB (tDNotIn (tVar 3) (tVar 2))) rfl sc_only_in.nd (pi_tup (pv 0)) (blkOk_by (N := ["one", "other", "seen", "cell"]) (sc := defScope s_only_in) (by decide +kernel)) (fun _ _ _ _ _ => pg_name (i := 3) sc_only_in.nd rfl (by first | exact Or.inl rfl | exact Or.inr rfl)) (fun _ _ _ _ _ => pts_one (pt_cmp (pc_dnotin (hu_of hr) (pv 3) (pv 2)))) (fun _ _ _ _ _ => pv 3)) (pa_nil))))))) (fun xs z h => .rt (run_only_in (P := P) (w := w) (K := K) xs z h))

/-! ### outside -/
def R_outside : List SV → SV → Prop := fun xs z => ∃ (s : Shp), xs = [.im (shD s)] ∧ z = .im (shD (outF s))
theorem sc_outside : FnScope ["shape", "cells", "rest"] ["shape"] (defScope s_outside) := ⟨rfl, rfl, rfl, by decide +kernel, rfl, by decide +kernel, by decide +kernel⟩
def t_outside (K : PySem.W.Frag) (P : Program) (w : World) : TS := tSeq (tAsg (tVar 0) (gTup K 2 (gCons (gName 1) (gCons (gName 2) (gNil))))) (tRet (tTup (tCons (tVar 1) (tCons (tNotV (tVar 2)) (tNil)))))
theorem len_outside : ∀ xs z, R_outside xs z → xs.length = 1 := by
  rintro xs z ⟨_, rfl, _⟩
  rfl
theorem run_outside : ∀ xs z, R_outside xs z → RunS (t_outside K P w) (xs.map some ++ List.replicate (3 - xs.length) none) (.rt z) := by
  rintro xs z ⟨s, rfl, rfl⟩
  exact rs_seq (rs_asg2 (es_im rfl)) (rs_ret (es_tup (ds := [csD s.1, .bool (!s.2)]) (ea_cons (es_im rfl) (ea_cons (es_notV (es_im rfl)) ea_nil))))
theorem O_outside (T : Tx K mg) : Ok P w K mg base CX0 1 d_outside ["shape"] (spD R_outside) := by
  obtain ⟨fd, F⟩ := T.fn 6 d_outside rfl
  exact ok_data (t := t_outside K P w) F sc_outside (fun _ _ _ _ _ _ us hl => match us, hl with | [_], _ => rfl) (len_outside) (by decide) (fun cdv A outer s H E hr => pss_cons (ps_asg (pv 0) (pg_tup rfl (pgs_cons (pg_name (i := 1) sc_outside.nd rfl (by first | exact Or.inl rfl | exact Or.inr rfl)) (pgs_cons (pg_name (i := 2) sc_outside.nd rfl (by first | exact Or.inl rfl | exact Or.inr rfl)) (pgs_nil))))) (pss_one (ps_ret (pe_tup (pa_cons (pv 1) (pa_cons (pe_not (pv 2)) (pa_nil))))))) (fun xs z h => .rt (run_outside (P := P) (w := w) (K := K) xs z h))
end K91
/-! ==== K2 -/
set_option maxRecDepth 100000
set_option maxHeartbeats 4000000
namespace K91
open PySem PySem.Spec PyProof.Rows L2 SG DL
variable {P : Program} {w : World} {K : PySem.W.Frag} {mg : Str → Option Value} {base : Heap}
theorem cD_app (a b : List Cell) : PyData.tuple (a.map cD ++ b.map cD) = csD (a ++ b) := by unfold csD; rw [List.map_append]

/-! ### both -/
def R_both : List SV → SV → Prop := fun xs z => ∃ (a b : Shp), xs = [.im (shD a), .im (shD b)] ∧ a.1.length + b.1.length ≤ 300 ∧ z = .im (shD (bothF a b))
theorem sc_both : FnScope ["one", "other"] ["one", "other"] (defScope s_both) := ⟨rfl, rfl, rfl, by decide +kernel, rfl, by decide +kernel, by decide +kernel⟩
def t_both (K : PySem.W.Frag) (P : Program) (w : World) : TS := tSeq (tIfS (tAnd (tB (tOp (rIx K) (tVar 0) (tC (.int 1)))) (tB (tOp (rIx K) (tVar 1) (tC (.int 1))))) (tRet (tTup (tCons (tCall (spD R_rising) [] E0 (tCons (tOp (xAdd K) (tOp (rIx K) (tVar 0) (tC (.int 0))) (tOp (rIx K) (tVar 1) (tC (.int 0)))) (tNil))) (tCons (tC (.bl true)) (tNil))))) (tNext)) (tSeq (tIfS (tB (tOp (rIx K) (tVar 0) (tC (.int 1)))) (tRet (tTup (tCons (tCall (spD R_only_in) [] E0 (tCons (tOp (rIx K) (tVar 1) (tC (.int 0))) (tCons (tOp (rIx K) (tVar 0) (tC (.int 0))) (tNil)))) (tCons (tC (.bl false)) (tNil))))) (tNext)) (tSeq (tIfS (tB (tOp (rIx K) (tVar 1) (tC (.int 1)))) (tRet (tTup (tCons (tCall (spD R_only_in) [] E0 (tCons (tOp (rIx K) (tVar 0) (tC (.int 0))) (tCons (tOp (rIx K) (tVar 1) (tC (.int 0))) (tNil)))) (tCons (tC (.bl false)) (tNil))))) (tNext)) (tRet (tTup (tCons (tCall (spD R_only_in) [] E0 (tCons (tOp (rIx K) (tVar 0) (tC (.int 0))) (tCons (tCall (spD R_only_in) [] E0 (tCons (tOp (rIx K) (tVar 0) (tC (.int 0))) (tCons (tOp (rIx K) (tVar 1) (tC (.int 0))) (tNil)))) (tNil)))) (tCons (tC (.bl false)) (tNil)))))))
theorem len_both : ∀ xs z, R_both xs z → xs.length = 2 := by
  rintro xs z ⟨_, _, rfl, _⟩
  rfl
theorem run_both : ∀ xs z, R_both xs z → RunS (t_both K P w) (xs.map some ++ List.replicate (2 - xs.length) none) (.rt z) := by
  rintro xs z ⟨⟨a, p⟩, ⟨b, q⟩, rfl, hl, rfl⟩
  have hl : a.length + b.length ≤ 300 := hl
  have ha := onlyIn_len a b
  cases p <;> cases q
  · refine rs_ifNo (et_to rfl (et_and (a := false) (b := false) (et_B (es_op (es_im rfl) es_int (s_ixT rfl))) fun z => nomatch z)) (rs_ifNo (et_B (es_op (es_im rfl) es_int (s_ixT rfl))) (rs_ifNo (et_B (es_op (es_im rfl) es_int (s_ixT rfl))) (rs_ret (es_tup (ds := [csD (onlyIn a (onlyIn a b)), .bool false]) (ea_cons
      (es_call (z := .im (csD (onlyIn a (onlyIn a b)))) (ea_cons (es_op (es_im rfl) es_int (s_ixT rfl)) (ea_cons (es_call (z := .im (csD (onlyIn a b))) (ea_cons (es_op (es_im rfl) es_int (s_ixT rfl)) (ea_cons (es_op (es_im rfl) es_int (s_ixT rfl)) ea_nil)) ⟨a, b, rfl, by omega, by omega, rfl⟩) ea_nil)) ⟨a, onlyIn a b, rfl, by omega, by omega, rfl⟩) (ea_cons es_bl ea_nil))))))
  · refine rs_ifNo (et_to rfl (et_and (a := false) (b := false) (et_B (es_op (es_im rfl) es_int (s_ixT rfl))) fun z => nomatch z)) (rs_ifNo (et_B (es_op (es_im rfl) es_int (s_ixT rfl))) (rs_ifRt (et_B (es_op (es_im rfl) es_int (s_ixT rfl))) (rs_ret (es_tup (ds := [csD (onlyIn a b), .bool false]) (ea_cons
      (es_call (z := .im (csD (onlyIn a b))) (ea_cons (es_op (es_im rfl) es_int (s_ixT rfl)) (ea_cons (es_op (es_im rfl) es_int (s_ixT rfl)) ea_nil)) ⟨a, b, rfl, by omega, by omega, rfl⟩) (ea_cons es_bl ea_nil))))))
  · refine rs_ifNo (et_to rfl (et_and (a := true) (b := false) (et_B (es_op (es_im rfl) es_int (s_ixT rfl))) fun _ => (et_B (es_op (es_im rfl) es_int (s_ixT rfl))))) (rs_ifRt (et_B (es_op (es_im rfl) es_int (s_ixT rfl))) (rs_ret (es_tup (ds := [csD (onlyIn b a), .bool false]) (ea_cons
      (es_call (z := .im (csD (onlyIn b a))) (ea_cons (es_op (es_im rfl) es_int (s_ixT rfl)) (ea_cons (es_op (es_im rfl) es_int (s_ixT rfl)) ea_nil)) ⟨b, a, rfl, by omega, by omega, rfl⟩) (ea_cons es_bl ea_nil)))))
  · refine rs_ifRt (et_to rfl (et_and (a := true) (b := true) (et_B (es_op (es_im rfl) es_int (s_ixT rfl))) fun _ => (et_B (es_op (es_im rfl) es_int (s_ixT rfl))))) (rs_ret (es_tup (ds := [csD (rise (a ++ b)), .bool true]) (ea_cons
      (es_call (z := .im (csD (rise (a ++ b)))) (ea_cons (es_to (congrArg SV.im (cD_app a b)) (es_op (es_op (es_im rfl) es_int (s_ixT rfl)) (es_op (es_im rfl) es_int (s_ixT rfl)) (s_addT (by rw [List.length_map, List.length_map]; omega)))) ea_nil) ⟨a ++ b, _, rfl, .inr rfl, by rw [List.length_append]; exact hl, rfl⟩) (ea_cons es_bl ea_nil))))
theorem O_both (T : Tx K mg) : Ok P w K mg base CX0 2 d_both ["one", "other"] (spD R_both) := by
  obtain ⟨fd, F⟩ := T.fn 7 d_both rfl
  exact ok_data (t := t_both K P w) F sc_both (fun _ _ _ _ _ _ us hl => match us, hl with | [_, _], _ => rfl) (len_both) (by decide) (fun cdv A outer s H E hr => pss_cons (ps_if (PW.pt (pw_and (pt_val (pe_ix ix_seq (pv 0) (pe_int) (fun _ _ => rfl))) (pw_and1 (pt_val (pe_ix ix_seq (pv 1) (pe_int) (fun _ _ => rfl)))))) (pss_one (ps_ret (pe_tup (pa_cons (pe_own (O_rising T) (hr.mono (by decide)) rfl (T.glo 2 rfl) pass0 (pa_cons (pe_op o_add (pe_ix ix_seq (pv 0) (pe_int) (fun _ _ => rfl)) (pe_ix ix_seq (pv 1) (pe_int) (fun _ _ => rfl))) (pa_nil))) (pa_cons (pe_bl) (pa_nil)))))) (pss_nil)) (pss_cons (ps_if (pt_val (pe_ix ix_seq (pv 0) (pe_int) (fun _ _ => rfl))) (pss_one (ps_ret (pe_tup (pa_cons (pe_own (O_only_in T) (hr.mono (by decide)) rfl (T.glo 4 rfl) pass0 (pa_cons (pe_ix ix_seq (pv 1) (pe_int) (fun _ _ => rfl)) (pa_cons (pe_ix ix_seq (pv 0) (pe_int) (fun _ _ => rfl)) (pa_nil)))) (pa_cons (pe_bl) (pa_nil)))))) (pss_nil)) (pss_cons (ps_if (pt_val (pe_ix ix_seq (pv 1) (pe_int) (fun _ _ => rfl))) (pss_one (ps_ret (pe_tup (pa_cons (pe_own (O_only_in T) (hr.mono (by decide)) rfl (T.glo 4 rfl) pass0 (pa_cons (pe_ix ix_seq (pv 0) (pe_int) (fun _ _ => rfl)) (pa_cons (pe_ix ix_seq (pv 1) (pe_int) (fun _ _ => rfl)) (pa_nil)))) (pa_cons (pe_bl) (pa_nil)))))) (pss_nil)) (pss_one (ps_ret (pe_tup (pa_cons (pe_own (O_only_in T) (hr.mono (by decide)) rfl (T.glo 4 rfl) pass0 (pa_cons (pe_ix ix_seq (pv 0) (pe_int) (fun _ _ => rfl)) (pa_cons (pe_own (O_only_in T) (hr.mono (by decide)) rfl (T.glo 4 rfl) pass0 (pa_cons (pe_ix ix_seq (pv 0) (pe_int) (fun _ _ => rfl)) (pa_cons (pe_ix ix_seq (pv 1) (pe_int) (fun _ _ => rfl)) (pa_nil)))) (pa_nil)))) (pa_cons (pe_bl) (pa_nil))))))))) (fun xs z h => .rt (run_both (P := P) (w := w) (K := K) xs z h))

/-! ### either -/
def R_either : List SV → SV → Prop := fun xs z => ∃ (a b : Shp), xs = [.im (shD a), .im (shD b)] ∧ a.1.length + b.1.length ≤ 300 ∧ z = .im (shD (eitherF a b))
theorem sc_either : FnScope ["one", "other"] ["one", "other"] (defScope s_either) := ⟨rfl, rfl, rfl, by decide +kernel, rfl, by decide +kernel, by decide +kernel⟩
def t_either (K : PySem.W.Frag) (P : Program) (w : World) : TS := tRet (tCall (spD R_outside) [] E0 (tCons (tCall (spD R_both) [] E0 (tCons (tCall (spD R_outside) [] E0 (tCons (tVar 0) (tNil))) (tCons (tCall (spD R_outside) [] E0 (tCons (tVar 1) (tNil))) (tNil)))) (tNil)))
theorem len_either : ∀ xs z, R_either xs z → xs.length = 2 := by
  rintro xs z ⟨_, _, rfl, _⟩
  rfl
theorem run_either : ∀ xs z, R_either xs z → RunS (t_either K P w) (xs.map some ++ List.replicate (2 - xs.length) none) (.rt z) := by
  rintro xs z ⟨a, b, rfl, hl, rfl⟩
  exact rs_ret (es_call (z := .im (shD (eitherF a b))) (ea_cons (es_call (z := .im (shD (bothF (outF a) (outF b)))) (ea_cons (es_call (z := .im (shD (outF a))) (ea_cons (es_im rfl) ea_nil) ⟨a, rfl, rfl⟩) (ea_cons (es_call (z := .im (shD (outF b))) (ea_cons (es_im rfl) ea_nil) ⟨b, rfl, rfl⟩) ea_nil)) ⟨outF a, outF b, rfl, hl, rfl⟩) ea_nil) ⟨_, rfl, rfl⟩)
theorem O_either (T : Tx K mg) : Ok P w K mg base CX0 3 d_either ["one", "other"] (spD R_either) := by
  obtain ⟨fd, F⟩ := T.fn 8 d_either rfl
  exact ok_data (t := t_either K P w) F sc_either (fun _ _ _ _ _ _ us hl => match us, hl with | [_, _], _ => rfl) (len_either) (by decide) (fun cdv A outer s H E hr => pss_one (ps_ret (pe_own (O_outside T) (hr.mono (by decide)) rfl (T.glo 5 rfl) pass0 (pa_cons (pe_own (O_both T) (hr.mono (by decide)) rfl (T.glo 6 rfl) pass0 (pa_cons (pe_own (O_outside T) (hr.mono (by decide)) rfl (T.glo 5 rfl) pass0 (pa_cons (pv 0) (pa_nil))) (pa_cons (pe_own (O_outside T) (hr.mono (by decide)) rfl (T.glo 5 rfl) pass0 (pa_cons (pv 1) (pa_nil))) (pa_nil)))) (pa_nil))))) (fun xs z h => .rt (run_either (P := P) (w := w) (K := K) xs z h))

/-! ### moved_cell -/
def R_moved_cell : List SV → SV → Prop := fun xs z => ∃ (c d : Cell), xs = [.im (cD c), .im (cD d)] ∧ z = .im (cD (mvC c d))
theorem sc_moved_cell : FnScope ["cell", "step"] ["cell", "step"] (defScope s_moved_cell) := ⟨rfl, rfl, rfl, by decide +kernel, rfl, by decide +kernel, by decide +kernel⟩
def t_moved_cell (K : PySem.W.Frag) (P : Program) (w : World) : TS := tRet (tTup (tCons (tOp (xAdd K) (tOp (rIx K) (tVar 0) (tC (.int 0))) (tOp (rIx K) (tVar 1) (tC (.int 0)))) (tCons (tOp (xAdd K) (tOp (rIx K) (tVar 0) (tC (.int 1))) (tOp (rIx K) (tVar 1) (tC (.int 1)))) (tNil))))
theorem len_moved_cell : ∀ xs z, R_moved_cell xs z → xs.length = 2 := by
  rintro xs z ⟨_, _, rfl, _⟩
  rfl
theorem run_moved_cell : ∀ xs z, R_moved_cell xs z → RunS (t_moved_cell K P w) (xs.map some ++ List.replicate (2 - xs.length) none) (.rt z) := by
  rintro xs z ⟨c, d, rfl, rfl⟩
  exact rs_ret (es_tup (ds := [.int (c.1 + d.1), .int (c.2 + d.2)]) (ea_cons (es_op (es_op (es_im rfl) es_int (s_ixT rfl)) (es_op (es_im rfl) es_int (s_ixT rfl)) s_add) (ea_cons (es_op (es_op (es_im rfl) es_int (s_ixT rfl)) (es_op (es_im rfl) es_int (s_ixT rfl)) s_add) ea_nil)))
theorem O_moved_cell (T : Tx K mg) : Ok P w K mg base CX0 1 d_moved_cell ["cell", "step"] (spD R_moved_cell) := by
  obtain ⟨fd, F⟩ := T.fn 9 d_moved_cell rfl
  exact ok_data (t := t_moved_cell K P w) F sc_moved_cell (fun _ _ _ _ _ _ us hl => match us, hl with | [_, _], _ => rfl) (len_moved_cell) (by decide) (fun cdv A outer s H E hr => pss_one (ps_ret (pe_tup (pa_cons (pe_op o_add (pe_ix ix_seq (pv 0) (pe_int) (fun _ _ => rfl)) (pe_ix ix_seq (pv 1) (pe_int) (fun _ _ => rfl))) (pa_cons (pe_op o_add (pe_ix ix_seq (pv 0) (pe_int) (fun _ _ => rfl)) (pe_ix ix_seq (pv 1) (pe_int) (fun _ _ => rfl))) (pa_nil)))))) (fun xs z h => .rt (run_moved_cell (P := P) (w := w) (K := K) xs z h))

/-! ### less_cell -/
def R_less_cell : List SV → SV → Prop := fun xs z => ∃ (c d : Cell), xs = [.im (cD c), .im (cD d)] ∧ z = .im (cD (lsC c d))
theorem sc_less_cell : FnScope ["cell", "step"] ["cell", "step"] (defScope s_less_cell) := ⟨rfl, rfl, rfl, by decide +kernel, rfl, by decide +kernel, by decide +kernel⟩
def t_less_cell (K : PySem.W.Frag) (P : Program) (w : World) : TS := tRet (tTup (tCons (tOp (rI0 fun i j => .int (i - j)) (tOp (rIx K) (tVar 0) (tC (.int 0))) (tOp (rIx K) (tVar 1) (tC (.int 0)))) (tCons (tOp (rI0 fun i j => .int (i - j)) (tOp (rIx K) (tVar 0) (tC (.int 1))) (tOp (rIx K) (tVar 1) (tC (.int 1)))) (tNil))))
theorem len_less_cell : ∀ xs z, R_less_cell xs z → xs.length = 2 := by
  rintro xs z ⟨_, _, rfl, _⟩
  rfl
theorem run_less_cell : ∀ xs z, R_less_cell xs z → RunS (t_less_cell K P w) (xs.map some ++ List.replicate (2 - xs.length) none) (.rt z) := by
  rintro xs z ⟨c, d, rfl, rfl⟩
  exact rs_ret (es_tup (ds := [.int (c.1 - d.1), .int (c.2 - d.2)]) (ea_cons (es_op (es_op (es_im rfl) es_int (s_ixT rfl)) (es_op (es_im rfl) es_int (s_ixT rfl)) s_sub) (ea_cons (es_op (es_op (es_im rfl) es_int (s_ixT rfl)) (es_op (es_im rfl) es_int (s_ixT rfl)) s_sub) ea_nil)))
theorem O_less_cell (T : Tx K mg) : Ok P w K mg base CX0 1 d_less_cell ["cell", "step"] (spD R_less_cell) := by
  obtain ⟨fd, F⟩ := T.fn 10 d_less_cell rfl
  exact ok_data (t := t_less_cell K P w) F sc_less_cell (fun _ _ _ _ _ _ us hl => match us, hl with | [_, _], _ => rfl) (len_less_cell) (by decide) (fun cdv A outer s H E hr => pss_one (ps_ret (pe_tup (pa_cons (pe_op op_sub (pe_ix ix_seq (pv 0) (pe_int) (fun _ _ => rfl)) (pe_ix ix_seq (pv 1) (pe_int) (fun _ _ => rfl))) (pa_cons (pe_op op_sub (pe_ix ix_seq (pv 0) (pe_int) (fun _ _ => rfl)) (pe_ix ix_seq (pv 1) (pe_int) (fun _ _ => rfl))) (pa_nil)))))) (fun xs z h => .rt (run_less_cell (P := P) (w := w) (K := K) xs z h))

/-! ### moved -/
def R_moved : List SV → SV → Prop := fun xs z => ∃ (s : Shp) (d : Cell), xs = [.im (shD s), .im (cD d)] ∧ s.1.length < 100000 ∧ z = .im (shD (mvF s d))
theorem sc_moved : FnScope ["shape", "step", "cells", "rest", "cell"] ["shape", "step"] (defScope s_moved) := ⟨rfl, rfl, rfl, by decide +kernel, rfl, by decide +kernel, by decide +kernel⟩
def t_moved (K : PySem.W.Frag) (P : Program) (w : World) : TS := tSeq (tAsg (tVar 0) (gTup K 2 (gCons (gName 2) (gCons (gName 3) (gNil))))) (tRet (tTup (tCons (tCB (xTuple K) (tCons (tLc (iTup K (tVar 2)) (gName 4) (tYes) (tCall (spD R_moved_cell) [] E0 (tCons (tVar 4) (tCons (tVar 1) (tNil)))) [4]) (tNil))) (tCons (tVar 3) (tNil)))))
theorem len_moved : ∀ xs z, R_moved xs z → xs.length = 2 := by
  rintro xs z ⟨_, _, rfl, _⟩
  rfl
theorem run_moved : ∀ xs z, R_moved xs z → RunS (t_moved K P w) (xs.map some ++ List.replicate (5 - xs.length) none) (.rt z) := by
  rintro xs z ⟨s, d, rfl, hl, rfl⟩
  exact rs_seq (rs_asg2 (es_im rfl)) (rs_ret (es_tup (ds := [csD (s.1.map fun c => mvC c d), .bool s.2]) (ea_cons (es_to (congrArg SV.im (map_csD s.1 _)) (es_cb (ea_cons (es_mapT (enc := cD) (h := fun c => cD (mvC c d)) (es_im rfl) (fun c _ => ⟨_, .name 4 _, es_call (z := .im (cD (mvC c d))) (ea_cons (es_im rfl) (ea_cons (es_im rfl) ea_nil)) ⟨c, d, rfl, rfl⟩⟩) hl) ea_nil) (c_tuple rfl))) (ea_cons (es_im rfl) ea_nil))))
theorem O_moved (T : Tx K mg) : Ok P w K mg base CX0 2 d_moved ["shape", "step"] (spD R_moved) := by
  obtain ⟨fd, F⟩ := T.fn 11 d_moved rfl
  exact ok_data (t := t_moved K P w) F sc_moved (fun _ _ _ _ _ _ us hl => match us, hl with | [_, _], _ => rfl) (len_moved) (by decide) (fun cdv A outer s H E hr => pss_cons (ps_asg (pv 0) (pg_tup rfl (pgs_cons (pg_name (i := 2) sc_moved.nd rfl (by first | exact Or.inl rfl | exact Or.inr rfl)) (pgs_cons (pg_name (i := 3) sc_moved.nd rfl (by first | exact Or.inl rfl | exact Or.inr rfl)) (pgs_nil))))) (pss_one (ps_ret (pe_tup (pa_cons (pe_callTy r_tuple rfl (T.free 67 rfl) boot_tuple (pa_cons (pe_lc (own := [("cell", 4)]) (g := gName 4) (tt := tYes) rfl sc_moved.nd (pi_tup (pv 2)) (blkOk_by (N := ["shape", "step", "cells", "rest", "cell"]) (sc := defScope s_moved) (by decide +kernel)) (fun _ _ _ _ _ => pg_name (i := 4) sc_moved.nd rfl (by first | exact Or.inl rfl | exact Or.inr rfl)) (fun _ _ _ _ _ => pts_nil) (fun _ _ _ _ _ => pe_own (O_moved_cell T) (hr.mono (by decide)) rfl (T.glo 8 rfl) pass0 (pa_cons (pv 4) (pa_cons (pv 1) (pa_nil))))) (pa_nil))) (pa_cons (pv 3) (pa_nil))))))) (fun xs z h => .rt (run_moved (P := P) (w := w) (K := K) xs z h))

/-! ### counted -/
def R_counted : List SV → SV → Prop := fun xs z => ∃ (s : Shp), xs = [.im (shD s)] ∧ z = .im (if s.2 = true then .none else .int s.1.length)
theorem sc_counted : FnScope ["shape", "cells", "rest"] ["shape"] (defScope s_counted) := ⟨rfl, rfl, rfl, by decide +kernel, rfl, by decide +kernel, by decide +kernel⟩
def t_counted (K : PySem.W.Frag) (P : Program) (w : World) : TS := tSeq (tAsg (tVar 0) (gTup K 2 (gCons (gName 1) (gCons (gName 2) (gNil))))) (tSeq (tIfS (tB (tVar 2)) (tRet (tC .non)) (tNext)) (tRet (tCB (xLen K) (tCons (tVar 1) (tNil)))))
theorem len_counted : ∀ xs z, R_counted xs z → xs.length = 1 := by
  rintro xs z ⟨_, rfl, _⟩
  rfl
theorem run_counted : ∀ xs z, R_counted xs z → RunS (t_counted K P w) (xs.map some ++ List.replicate (3 - xs.length) none) (.rt z) := by
  rintro xs z ⟨⟨cs, p⟩, rfl, rfl⟩
  cases p
  · exact rs_seq (rs_asg2 (es_im rfl)) (rs_ifNo (et_B (es_im rfl)) (rs_ret (es_to (by rw [List.length_map] <;> rfl) (es_cb (ea_cons (es_im (d := csD cs) rfl) ea_nil) (c_lenT (ds := cs.map cD))))))
  · exact rs_seq (rs_asg2 (es_im rfl)) (rs_ifRt (et_B (es_im rfl)) (rs_ret es_non))
theorem O_counted (T : Tx K mg) : Ok P w K mg base CX0 1 d_counted ["shape"] (spD R_counted) := by
  obtain ⟨fd, F⟩ := T.fn 12 d_counted rfl
  exact ok_data (t := t_counted K P w) F sc_counted (fun _ _ _ _ _ _ us hl => match us, hl with | [_], _ => rfl) (len_counted) (by decide) (fun cdv A outer s H E hr => pss_cons (ps_asg (pv 0) (pg_tup rfl (pgs_cons (pg_name (i := 1) sc_counted.nd rfl (by first | exact Or.inl rfl | exact Or.inr rfl)) (pgs_cons (pg_name (i := 2) sc_counted.nd rfl (by first | exact Or.inl rfl | exact Or.inr rfl)) (pgs_nil))))) (pss_cons (ps_if (pt_val (pv 2)) (pss_one (ps_ret (pe_non))) (pss_nil)) (pss_one (ps_ret (pe_callB r_len rfl (T.free 63 rfl) boot_len (pa_cons (pv 1) (pa_nil))))))) (fun xs z h => .rt (run_counted (P := P) (w := w) (K := K) xs z h))

/-! ### look_at_turn -/
def R_look_at_turn : List SV → SV → Prop := fun xs z => ∃ (t : Int), xs = [.im (.int t)] ∧ 0 ≤ t ∧ t < 8 ∧ z = .im .none
theorem sc_look_at_turn : FnScope ["turn"] ["turn"] (defScope s_look_at_turn) := ⟨rfl, rfl, rfl, by decide +kernel, rfl, by decide +kernel, by decide +kernel⟩
def t_look_at_turn (K : PySem.W.Frag) (P : Program) (w : World) : TS := tIfS (tOr (tTest (tOp (rI0 fun i j => .bl (decide (i < j))) (tVar 0) (tC (.int 0)))) (tTest (tOp (rI0 fun i j => .bl (decide (j ≤ i))) (tVar 0) (tC (.int 8))))) (tNever) (tNext)
theorem len_look_at_turn : ∀ xs z, R_look_at_turn xs z → xs.length = 1 := by
  rintro xs z ⟨_, rfl, _⟩
  rfl
theorem run_look_at_turn : ∀ xs z, R_look_at_turn xs z → RunE (t_look_at_turn K P w) (xs.map some ++ List.replicate (1 - xs.length) none) z := by
  rintro xs z ⟨t, rfl, h0, h1, rfl⟩
  exact .nx (rs_ifF (et_to (by rw [decide_eq_false (by omega), decide_eq_false (by omega)] <;> rfl) (et_or (et_test (es_op (es_im rfl) es_int s_lt)) fun _ => et_test (es_op (es_im rfl) es_int s_ge))) rs_next)
theorem O_look_at_turn (T : Tx K mg) : Ok P w K mg base CX0 1 d_look_at_turn ["turn"] (spD R_look_at_turn) := by
  obtain ⟨fd, F⟩ := T.fn 13 d_look_at_turn rfl
  exact ok_data (t := t_look_at_turn K P w) F sc_look_at_turn (fun _ _ _ _ _ _ us hl => match us, hl with | [_], _ => rfl) (len_look_at_turn) (by decide) (fun cdv A outer s H E hr => pss_one (ps_if (PW.pt (pw_or (pt_cmpR op_lt (pv 0) (pe_int) (nomark _)) (pw_or1 (pt_cmpR op_ge (pv 0) (pe_gint rfl (T.int 80 rfl)) (nomark _))))) (pss_one (ps_never)) (pss_nil))) (run_look_at_turn (P := P) (w := w) (K := K))

/-! ### turned_cell -/
def rotN : Nat → Cell → Cell
  | 0, c => c
  | n + 1, c => ((rotN n c).2, 0 - (rotN n c).1)
def turnC (c : Cell) (t : Int) : Cell := rotN (t % 4).toNat (if 4 ≤ t then (c.1, 0 - c.2) else c)
def turnF (s : Shp) (t : Int) : Shp := (rise (s.1.map fun c => turnC c t), s.2)
theorem map_enc (l : List Cell) (f : Cell → Cell) : l.map (fun c => cD (f c)) = (l.map f).map cD := by rw [List.map_map] <;> rfl
def R_turned_cell : List SV → SV → Prop := fun xs z => ∃ (c : Cell) (t : Int), xs = [.im (cD c), .im (.int t)] ∧ 0 ≤ t ∧ t < 8 ∧ z = .im (cD (turnC c t))
theorem sc_turned_cell : FnScope ["cell", "turn", "row", "column", "quarter"] ["cell", "turn"] (defScope s_turned_cell) := ⟨rfl, rfl, rfl, by decide +kernel, rfl, by decide +kernel, by decide +kernel⟩
def t_turned_cell (K : PySem.W.Frag) (P : Program) (w : World) : TS := tSeq (tDrop (tCall (spD R_look_at_turn) [] E0 (tCons (tVar 1) (tNil)))) (tSeq (tAsg (tVar 0) (gTup K 2 (gCons (gName 2) (gCons (gName 3) (gNil))))) (tSeq (tIfS (tTest (tOp (rI0 fun i j => .bl (decide (j ≤ i))) (tVar 1) (tC (.int 4)))) (tAsg (tOp (rI0 fun i j => .int (i - j)) (tC (.int 0)) (tVar 3)) (gName 3)) (tNext)) (tSeq (tFor (iRng1 (tCons (tOp (rI (fun _ j => 0 < j) fun i j => .int (i % j)) (tVar 1) (tC (.int 4))) (tNil))) (gName 4) (tPar 2 3 (tCons (tVar 3) (tCons (tOp (rI0 fun i j => .int (i - j)) (tC (.int 0)) (tVar 2)) (tNil))))) (tRet (tTup (tCons (tVar 2) (tCons (tVar 3) (tNil))))))))
theorem len_turned_cell : ∀ xs z, R_turned_cell xs z → xs.length = 2 := by
  rintro xs z ⟨_, _, rfl, _⟩
  rfl
theorem run_turned_cell : ∀ xs z, R_turned_cell xs z → RunS (t_turned_cell K P w) (xs.map some ++ List.replicate (5 - xs.length) none) (.rt z) := by
  rintro xs z ⟨c, t, rfl, h0, h1, rfl⟩
  refine rs_seq (rs_drop (es_call (z := .im .none) (ea_cons (es_im rfl) ea_nil) ⟨t, rfl, h0, h1, rfl⟩)) (rs_seq (rs_asg2 (d1 := .int c.1) (d2 := .int c.2) (es_im rfl)) (rs_seq (ρ1 := [some (.im (cD c)), some (.im (.int t)), some (.im (.int c.1)), some (.im (.int (if 4 ≤ t then 0 - c.2 else c.2))), none])
    (rs_if (et_test (es_op (es_im rfl) es_int s_ge)) (fun h => rs_nx ?_ (rs_asg (es_op es_int (es_im rfl) s_sub))) fun h => rs_nx ?_ rs_next)
    (rs_seq (rs_forR1 (n := t % 4) (ea_cons (es_op (es_im rfl) es_int (s_mod (by decide))) ea_nil) (by omega) (by omega) (for_enc (enc := fun k : Nat => .int (0 + (k : Int)))
        (f := fun p => [some (.im (cD c)), some (.im (.int t)), some (.im (.int (rotN p.length (c.1, if 4 ≤ t then 0 - c.2 else c.2)).1)), some (.im (.int (rotN p.length (c.1, if 4 ≤ t then 0 - c.2 else c.2)).2)), none])
        fun p a r e => turn_name (rs_nx ?_ (rs_clear 4 (rs_par (ea_cons (es_im rfl) (ea_cons (es_op es_int (es_im rfl) s_sub) ea_nil)))))))
      (rs_to ?_ (rs_ret (es_tup (ds := [_, _]) (ea_cons (es_im rfl) (ea_cons (es_im rfl) ea_nil))))))))
  · rw [if_pos (of_decide_eq_true h)] <;> rfl
  · rw [if_neg (of_decide_eq_false h)] <;> rfl
  · rw [List.length_append] <;> rfl
  · rw [List.length_range]
    have e : (c.1, if 4 ≤ t then 0 - c.2 else c.2) = (if 4 ≤ t then ((c.1, 0 - c.2) : Cell) else c) := by split <;> rfl
    rw [e]
    rfl
theorem O_turned_cell (T : Tx K mg) : Ok P w K mg base CX0 2 d_turned_cell ["cell", "turn"] (spD R_turned_cell) := by
  obtain ⟨fd, F⟩ := T.fn 14 d_turned_cell rfl
  exact ok_data (t := t_turned_cell K P w) F sc_turned_cell (fun _ _ _ _ _ _ us hl => match us, hl with | [_, _], _ => rfl) (len_turned_cell) (by decide) (fun cdv A outer s H E hr => pss_cons (ps_expr (pe_own (O_look_at_turn T) (hr.mono (by decide)) rfl (T.glo 12 rfl) pass0 (pa_cons (pv 1) (pa_nil)))) (pss_cons (ps_asg (pv 0) (pg_tup rfl (pgs_cons (pg_name (i := 2) sc_turned_cell.nd rfl (by first | exact Or.inl rfl | exact Or.inr rfl)) (pgs_cons (pg_name (i := 3) sc_turned_cell.nd rfl (by first | exact Or.inl rfl | exact Or.inr rfl)) (pgs_nil))))) (pss_cons (ps_if (pt_cmpR op_ge (pv 1) (pe_gint rfl (T.int 81 rfl)) (nomark _)) (pss_one (ps_set (i := 3) sc_turned_cell.nd rfl (by first | exact Or.inl rfl | exact Or.inr rfl) (pe_op op_sub (pe_int) (pv 3)))) (pss_nil)) (pss_cons (ps_for PassesOwn.never rfl (pi_range1 rfl (T.free 71 rfl) (pa_cons (pe_op op_mod (pv 1) (pe_gint rfl (T.int 81 rfl))) (pa_nil))) (pg_name (i := 4) sc_turned_cell.nd rfl (by first | exact Or.inl rfl | exact Or.inr rfl)) (pss_one (ps_par rfl sc_turned_cell.nd rfl rfl (by decide) rfl rfl (pa_cons (pv 3) (pa_cons (pe_op op_sub (pe_int) (pv 2)) (pa_nil))) rfl))) (pss_one (ps_ret (pe_tup (pa_cons (pv 2) (pa_cons (pv 3) (pa_nil)))))))))) (fun xs z h => .rt (run_turned_cell (P := P) (w := w) (K := K) xs z h))

/-! ### turned -/
def R_turned : List SV → SV → Prop := fun xs z => ∃ (s : Shp) (t : Int), xs = [.im (shD s), .im (.int t)] ∧ 0 ≤ t ∧ t < 8 ∧ s.1.length ≤ 300 ∧ z = .im (shD (turnF s t))
theorem sc_turned : FnScope ["shape", "turn", "cells", "rest", "cell"] ["shape", "turn"] (defScope s_turned) := ⟨rfl, rfl, rfl, by decide +kernel, rfl, by decide +kernel, by decide +kernel⟩
def t_turned (K : PySem.W.Frag) (P : Program) (w : World) : TS := tSeq (tDrop (tCall (spD R_look_at_turn) [] E0 (tCons (tVar 1) (tNil)))) (tSeq (tAsg (tVar 0) (gTup K 2 (gCons (gName 2) (gCons (gName 3) (gNil))))) (tRet (tTup (tCons (tCall (spD R_rising) [] E0 (tCons (tLc (iTup K (tVar 2)) (gName 4) (tYes) (tCall (spD R_turned_cell) [] E0 (tCons (tVar 4) (tCons (tVar 1) (tNil)))) [4]) (tNil))) (tCons (tVar 3) (tNil))))))
theorem len_turned : ∀ xs z, R_turned xs z → xs.length = 2 := by
  rintro xs z ⟨_, _, rfl, _⟩
  rfl
theorem run_turned : ∀ xs z, R_turned xs z → RunS (t_turned K P w) (xs.map some ++ List.replicate (5 - xs.length) none) (.rt z) := by
  rintro xs z ⟨s, t, rfl, h0, h1, hl, rfl⟩
  exact rs_seq (rs_drop (es_call (z := .im .none) (ea_cons (es_im rfl) ea_nil) ⟨t, rfl, h0, h1, rfl⟩)) (rs_seq (rs_asg2 (es_im rfl)) (rs_ret (es_tup (ds := [csD (turnF s t).1, .bool s.2]) (ea_cons
    (es_call (z := .im (csD (turnF s t).1)) (ea_cons (es_mapT (enc := cD) (h := fun c => cD (turnC c t)) (es_im rfl) (fun c _ => ⟨_, .name 4 _, es_call (z := .im (cD (turnC c t))) (ea_cons (es_im rfl) (ea_cons (es_im rfl) ea_nil)) ⟨c, t, rfl, h0, h1, rfl⟩⟩) (by omega)) ea_nil)
      ⟨s.1.map fun c => turnC c t, _, rfl, .inl (congrArg SV.ro (map_enc s.1 _)), by rw [List.length_map]; exact hl, rfl⟩) (ea_cons (es_im rfl) ea_nil)))))
theorem O_turned (T : Tx K mg) : Ok P w K mg base CX0 3 d_turned ["shape", "turn"] (spD R_turned) := by
  obtain ⟨fd, F⟩ := T.fn 15 d_turned rfl
  exact ok_data (t := t_turned K P w) F sc_turned (fun _ _ _ _ _ _ us hl => match us, hl with | [_, _], _ => rfl) (len_turned) (by decide) (fun cdv A outer s H E hr => pss_cons (ps_expr (pe_own (O_look_at_turn T) (hr.mono (by decide)) rfl (T.glo 12 rfl) pass0 (pa_cons (pv 1) (pa_nil)))) (pss_cons (ps_asg (pv 0) (pg_tup rfl (pgs_cons (pg_name (i := 2) sc_turned.nd rfl (by first | exact Or.inl rfl | exact Or.inr rfl)) (pgs_cons (pg_name (i := 3) sc_turned.nd rfl (by first | exact Or.inl rfl | exact Or.inr rfl)) (pgs_nil))))) (pss_one (ps_ret (pe_tup (pa_cons (pe_own (O_rising T) (hr.mono (by decide)) rfl (T.glo 2 rfl) pass0 (pa_cons (pe_lc (own := [("cell", 4)]) (g := gName 4) (tt := tYes) rfl sc_turned.nd (pi_tup (pv 2)) (blkOk_by (N := ["shape", "turn", "cells", "rest", "cell"]) (sc := defScope s_turned) (by decide +kernel)) (fun _ _ _ _ _ => pg_name (i := 4) sc_turned.nd rfl (by first | exact Or.inl rfl | exact Or.inr rfl)) (fun _ _ _ _ _ => pts_nil) (fun _ _ _ _ _ => pe_own (O_turned_cell T) (hr.mono (by decide)) rfl (T.glo 13 rfl) pass0 (pa_cons (pv 4) (pa_cons (pv 1) (pa_nil))))) (pa_nil))) (pa_cons (pv 3) (pa_nil)))))))) (fun xs z h => .rt (run_turned (P := P) (w := w) (K := K) xs z h))
end K91
/-! ==== K3 -/
set_option maxRecDepth 100000
set_option maxHeartbeats 4000000
namespace K91
open PySem PySem.Spec PyProof.Rows L2 SG DL
variable {P : Program} {w : World} {K : PySem.W.Frag} {mg : Str → Option Value} {base : Heap}
def mirr (p : List Cell) : List Cell := rise (p.map fun c => (0 - c.1, 0 - c.2))
def liesOn (p : List Cell) (c : Cell) : List Cell := p.map fun d => mvC d c
def wholeF (s : Shp) (p : List Cell) (c : Cell) : Bool := (liesOn p c).all (hasB s)
def clearF (s : Shp) (p : List Cell) (c : Cell) : Bool := !(liesOn p c).any (hasB s)
def reachF (cs p : List Cell) : List Cell := rise (cs.flatMap (liesOn p))
def keptF (cs : List Cell) (p0 : Cell) (p : List Cell) : List Cell := (cs.map fun c => lsC c p0).filter fun q => (liesOn p q).all fun c => decide (c ∈ cs)

/-! ### mirrored -/
def R_mirrored : List SV → SV → Prop := fun xs z => ∃ (p : List Cell), xs = [.im (csD p)] ∧ p.length ≤ 300 ∧ z = .im (csD (mirr p))
theorem sc_mirrored : FnScope ["piece", "row", "column"] ["piece"] (defScope s_mirrored) := ⟨rfl, rfl, rfl, by decide +kernel, rfl, by decide +kernel, by decide +kernel⟩
def t_mirrored (K : PySem.W.Frag) (P : Program) (w : World) : TS := tRet (tCall (spD R_rising) [] E0 (tCons (tLc (iTup K (tVar 0)) (gTup K 2 (gCons (gName 1) (gCons (gName 2) (gNil)))) (tYes) (tTup (tCons (tOp (rI0 fun i j => .int (i - j)) (tC (.int 0)) (tVar 1)) (tCons (tOp (rI0 fun i j => .int (i - j)) (tC (.int 0)) (tVar 2)) (tNil)))) [1, 2]) (tNil)))
theorem len_mirrored : ∀ xs z, R_mirrored xs z → xs.length = 1 := by
  rintro xs z ⟨_, rfl, _⟩
  rfl
theorem run_mirrored : ∀ xs z, R_mirrored xs z → RunS (t_mirrored K P w) (xs.map some ++ List.replicate (3 - xs.length) none) (.rt z) := by
  rintro xs z ⟨p, rfl, hl, rfl⟩
  refine rs_ret (es_call (ea_cons (es_mapT (enc := cD) (h := fun c => cD (0 - c.1, 0 - c.2)) (es_im rfl) (fun c _ => ⟨_, .pair _ 1 2 (.int c.1) (.int c.2) (by decide), es_tup (ds := [.int (0 - c.1), .int (0 - c.2)]) (ea_cons (es_op es_int (es_im rfl) s_sub) (ea_cons (es_op es_int (es_im rfl) s_sub) ea_nil))⟩) (by omega)) ea_nil)
    ⟨p.map fun c => (0 - c.1, 0 - c.2), _, rfl, .inl (congrArg SV.ro (map_enc p fun c => (0 - c.1, 0 - c.2))), by rw [List.length_map]; exact hl, rfl⟩)
theorem O_mirrored (T : Tx K mg) : Ok P w K mg base CX0 2 d_mirrored ["piece"] (spD R_mirrored) := by
  obtain ⟨fd, F⟩ := T.fn 16 d_mirrored rfl
  exact ok_data (t := t_mirrored K P w) F sc_mirrored (fun _ _ _ _ _ _ us hl => match us, hl with | [_], _ => rfl) (len_mirrored) (by decide) (fun cdv A outer s H E hr => pss_one (ps_ret (pe_own (O_rising T) (hr.mono (by decide)) rfl (T.glo 2 rfl) pass0 (pa_cons (pe_lc (own := [("row", 1), ("column", 2)]) (g := gTup K 2 (gCons (gName 1) (gCons (gName 2) (gNil)))) (tt := tYes) rfl sc_mirrored.nd (pi_tup (pv 0)) (blkOk_by (N := ["piece", "row", "column"]) (sc := defScope s_mirrored) (by decide +kernel)) (fun _ _ _ _ _ => pg_tup rfl (pgs_cons (pg_name (i := 1) sc_mirrored.nd rfl (by first | exact Or.inl rfl | exact Or.inr rfl)) (pgs_cons (pg_name (i := 2) sc_mirrored.nd rfl (by first | exact Or.inl rfl | exact Or.inr rfl)) (pgs_nil)))) (fun _ _ _ _ _ => pts_nil) (fun _ _ _ _ _ => pe_tup (pa_cons (pe_op op_sub (pe_int) (pv 1)) (pa_cons (pe_op op_sub (pe_int) (pv 2)) (pa_nil))))) (pa_nil))))) (fun xs z h => .rt (run_mirrored (P := P) (w := w) (K := K) xs z h))

/-! ### lies_on -/
def R_lies_on : List SV → SV → Prop := fun xs z => ∃ (p : List Cell) (c : Cell), xs = [.im (csD p), .im (cD c)] ∧ p.length < 100000 ∧ z = .own ((liesOn p c).map cD)
theorem sc_lies_on : FnScope ["piece", "cell", "step"] ["piece", "cell"] (defScope s_lies_on) := ⟨rfl, rfl, rfl, by decide +kernel, rfl, by decide +kernel, by decide +kernel⟩
def t_lies_on (K : PySem.W.Frag) (P : Program) (w : World) : TS := tRet (tLc (iTup K (tVar 0)) (gName 2) (tYes) (tCall (spD R_moved_cell) [] E0 (tCons (tVar 2) (tCons (tVar 1) (tNil)))) [2])
theorem len_lies_on : ∀ xs z, R_lies_on xs z → xs.length = 2 := by
  rintro xs z ⟨_, _, rfl, _⟩
  rfl
theorem run_lies_on : ∀ xs z, R_lies_on xs z → RunS (t_lies_on K P w) (xs.map some ++ List.replicate (3 - xs.length) none) (.rt z) := by
  rintro xs z ⟨p, c, rfl, hl, rfl⟩
  exact rs_ret (es_to (congrArg SV.own (map_enc p fun d => mvC d c)) (es_mapT (enc := cD) (h := fun d => cD (mvC d c)) (es_im rfl) (fun d _ => ⟨_, .name 2 _, es_call (z := .im (cD (mvC d c))) (ea_cons (es_im rfl) (ea_cons (es_im rfl) ea_nil)) ⟨d, c, rfl, rfl⟩⟩) hl))
theorem O_lies_on (T : Tx K mg) : Ok P w K mg base CX0 2 d_lies_on ["piece", "cell"] (spD R_lies_on) := by
  obtain ⟨fd, F⟩ := T.fn 17 d_lies_on rfl
  exact ok_data (t := t_lies_on K P w) F sc_lies_on (fun _ _ _ _ _ _ us hl => match us, hl with | [_, _], _ => rfl) (len_lies_on) (by decide) (fun cdv A outer s H E hr => pss_one (ps_ret (pe_lc (own := [("step", 2)]) (g := gName 2) (tt := tYes) rfl sc_lies_on.nd (pi_tup (pv 0)) (blkOk_by (N := ["piece", "cell", "step"]) (sc := defScope s_lies_on) (by decide +kernel)) (fun _ _ _ _ _ => pg_name (i := 2) sc_lies_on.nd rfl (by first | exact Or.inl rfl | exact Or.inr rfl)) (fun _ _ _ _ _ => pts_nil) (fun _ _ _ _ _ => pe_own (O_moved_cell T) (hr.mono (by decide)) rfl (T.glo 8 rfl) pass0 (pa_cons (pv 2) (pa_cons (pv 1) (pa_nil))))))) (fun xs z h => .rt (run_lies_on (P := P) (w := w) (K := K) xs z h))

/-! ### whole_at -/
theorem liesOn_len (p : List Cell) (c : Cell) : (liesOn p c).length = p.length := List.length_map _
def R_whole_at : List SV → SV → Prop := fun xs z => ∃ (s : Shp) (p : List Cell) (c : Cell), xs = [.im (shD s), .im (csD p), .im (cD c)] ∧ p.length < 100000 ∧ z = .im (.bool (wholeF s p c))
theorem sc_whole_at : FnScope ["shape", "piece", "cell", "there"] ["shape", "piece", "cell"] (defScope s_whole_at) := ⟨rfl, rfl, rfl, by decide +kernel, rfl, by decide +kernel, by decide +kernel⟩
def t_whole_at (K : PySem.W.Frag) (P : Program) (w : World) : TS := tRet (tCB (rAll K) (tCons (tLc (iList K (tCall (spD R_lies_on) [] E0 (tCons (tVar 1) (tCons (tVar 2) (tNil))))) (gName 3) (tYes) (tCall (spD R_has) [] E0 (tCons (tVar 0) (tCons (tVar 3) (tNil)))) [3]) (tNil)))
theorem len_whole_at : ∀ xs z, R_whole_at xs z → xs.length = 3 := by
  rintro xs z ⟨_, _, _, rfl, _⟩
  rfl
theorem run_whole_at : ∀ xs z, R_whole_at xs z → RunS (t_whole_at K P w) (xs.map some ++ List.replicate (4 - xs.length) none) (.rt z) := by
  rintro xs z ⟨s, p, c, rfl, hl, rfl⟩
  refine rs_to ?_ (rs_ret (es_cb (ea_cons (es_mapL (enc := cD) (l := liesOn p c) (h := fun d => .bool (hasB s d)) (x := .own ((liesOn p c).map cD)) (es_call (ea_cons (es_im rfl) (ea_cons (es_im rfl) ea_nil)) ⟨p, c, rfl, by omega, rfl⟩) rfl (fun d _ => ⟨_, .name 3 _, es_call (z := .im (.bool (hasB s d))) (ea_cons (es_im rfl) (ea_cons (es_im rfl) ea_nil)) ⟨s, d, rfl, rfl⟩⟩) (by rw [liesOn_len]; omega)) ea_nil) (c_all (bs := (liesOn p c).map (hasB s)) (by rw [List.map_map] <;> rfl))))
  rw [List.all_map]
  rfl
theorem O_whole_at (T : Tx K mg) : Ok P w K mg base CX0 3 d_whole_at ["shape", "piece", "cell"] (spD R_whole_at) := by
  obtain ⟨fd, F⟩ := T.fn 18 d_whole_at rfl
  exact ok_data (t := t_whole_at K P w) F sc_whole_at (fun _ _ _ _ _ _ us hl => match us, hl with | [_, _, _], _ => rfl) (len_whole_at) (by decide) (fun cdv A outer s H E hr => pss_one (ps_ret (pe_callB (cr_all rfl) rfl (T.free 69 rfl) boot_all (pa_cons (pe_lc (own := [("there", 3)]) (g := gName 3) (tt := tYes) rfl sc_whole_at.nd (pi_list (pe_own (O_lies_on T) (hr.mono (by decide)) rfl (T.glo 16 rfl) pass0 (pa_cons (pv 1) (pa_cons (pv 2) (pa_nil))))) (blkOk_by (N := ["shape", "piece", "cell", "there"]) (sc := defScope s_whole_at) (by decide +kernel)) (fun _ _ _ _ _ => pg_name (i := 3) sc_whole_at.nd rfl (by first | exact Or.inl rfl | exact Or.inr rfl)) (fun _ _ _ _ _ => pts_nil) (fun _ _ _ _ _ => pe_own (O_has T) (hr.mono (by decide)) rfl (T.glo 3 rfl) pass0 (pa_cons (pv 0) (pa_cons (pv 3) (pa_nil))))) (pa_nil))))) (fun xs z h => .rt (run_whole_at (P := P) (w := w) (K := K) xs z h))

/-! ### clear_at -/
def R_clear_at : List SV → SV → Prop := fun xs z => ∃ (s : Shp) (p : List Cell) (c : Cell), xs = [.im (shD s), .im (csD p), .im (cD c)] ∧ p.length < 100000 ∧ z = .im (.bool (clearF s p c))
theorem sc_clear_at : FnScope ["shape", "piece", "cell", "there"] ["shape", "piece", "cell"] (defScope s_clear_at) := ⟨rfl, rfl, rfl, by decide +kernel, rfl, by decide +kernel, by decide +kernel⟩
def t_clear_at (K : PySem.W.Frag) (P : Program) (w : World) : TS := tRet (tNotV (tCB (rAny K) (tCons (tLc (iList K (tCall (spD R_lies_on) [] E0 (tCons (tVar 1) (tCons (tVar 2) (tNil))))) (gName 3) (tYes) (tCall (spD R_has) [] E0 (tCons (tVar 0) (tCons (tVar 3) (tNil)))) [3]) (tNil))))
theorem len_clear_at : ∀ xs z, R_clear_at xs z → xs.length = 3 := by
  rintro xs z ⟨_, _, _, rfl, _⟩
  rfl
theorem run_clear_at : ∀ xs z, R_clear_at xs z → RunS (t_clear_at K P w) (xs.map some ++ List.replicate (4 - xs.length) none) (.rt z) := by
  rintro xs z ⟨s, p, c, rfl, hl, rfl⟩
  refine rs_to ?_ (rs_ret (es_notV (es_cb (ea_cons (es_mapL (enc := cD) (l := liesOn p c) (h := fun d => .bool (hasB s d)) (x := .own ((liesOn p c).map cD)) (es_call (ea_cons (es_im rfl) (ea_cons (es_im rfl) ea_nil)) ⟨p, c, rfl, by omega, rfl⟩) rfl (fun d _ => ⟨_, .name 3 _, es_call (z := .im (.bool (hasB s d))) (ea_cons (es_im rfl) (ea_cons (es_im rfl) ea_nil)) ⟨s, d, rfl, rfl⟩⟩) (by rw [liesOn_len]; omega)) ea_nil) (c_any (bs := (liesOn p c).map (hasB s)) (by rw [List.map_map] <;> rfl)))))
  rw [List.any_map]
  rfl
theorem O_clear_at (T : Tx K mg) : Ok P w K mg base CX0 3 d_clear_at ["shape", "piece", "cell"] (spD R_clear_at) := by
  obtain ⟨fd, F⟩ := T.fn 19 d_clear_at rfl
  exact ok_data (t := t_clear_at K P w) F sc_clear_at (fun _ _ _ _ _ _ us hl => match us, hl with | [_, _, _], _ => rfl) (len_clear_at) (by decide) (fun cdv A outer s H E hr => pss_one (ps_ret (pe_not (pe_callB (cr_any rfl) rfl (T.free 70 rfl) boot_any (pa_cons (pe_lc (own := [("there", 3)]) (g := gName 3) (tt := tYes) rfl sc_clear_at.nd (pi_list (pe_own (O_lies_on T) (hr.mono (by decide)) rfl (T.glo 16 rfl) pass0 (pa_cons (pv 1) (pa_cons (pv 2) (pa_nil))))) (blkOk_by (N := ["shape", "piece", "cell", "there"]) (sc := defScope s_clear_at) (by decide +kernel)) (fun _ _ _ _ _ => pg_name (i := 3) sc_clear_at.nd rfl (by first | exact Or.inl rfl | exact Or.inr rfl)) (fun _ _ _ _ _ => pts_nil) (fun _ _ _ _ _ => pe_own (O_has T) (hr.mono (by decide)) rfl (T.glo 3 rfl) pass0 (pa_cons (pv 0) (pa_cons (pv 3) (pa_nil))))) (pa_nil)))))) (fun xs z h => .rt (run_clear_at (P := P) (w := w) (K := K) xs z h))

/-! ### reached -/
def R_reached : List SV → SV → Prop := fun xs z => ∃ (cs p : List Cell), xs = [.im (csD cs), .im (csD p)] ∧ cs.length * p.length ≤ 300 ∧ p.length < 100000 ∧ z = .im (csD (reachF cs p))
theorem sc_reached : FnScope ["cells", "piece", "told", "cell"] ["cells", "piece"] (defScope s_reached) := ⟨rfl, rfl, rfl, by decide +kernel, rfl, by decide +kernel, by decide +kernel⟩
def t_reached (K : PySem.W.Frag) (P : Program) (w : World) : TS := tSeq (tAsg (tLst (tNil)) (gName 2)) (tSeq (tFor (iTup K (tVar 0)) (gName 3) (tDrop (tBM K "list" (rExtend) (tVar 2) (tCons (tCall (spD R_lies_on) [] E0 (tCons (tVar 1) (tCons (tVar 3) (tNil)))) (tNil))))) (tRet (tCall (spD R_rising) [] E0 (tCons (tVar 2) (tNil)))))
theorem len_reached : ∀ xs z, R_reached xs z → xs.length = 2 := by
  rintro xs z ⟨_, _, rfl, _⟩
  rfl
theorem run_reached : ∀ xs z, R_reached xs z → RunS (t_reached K P w) (xs.map some ++ List.replicate (4 - xs.length) none) (.rt z) := by
  rintro xs z ⟨cs, p, rfl, hl, hp, rfl⟩
  have fl : ∀ q : List Cell, (q.flatMap (liesOn p)).length = q.length * p.length := fun q => by
    induction q with
    | nil => simp
    | cons a q ih => rw [List.flatMap_cons, List.length_append, ih, liesOn_len, List.length_cons, Nat.succ_mul, Nat.add_comm]
  refine rs_seq (rs_asg (es_lst (ds := []) ea_nil)) (rs_seq (rs_forT (ds := cs.map cD) (es_im rfl) (for_enc (f := fun q => [some (.im (csD cs)), some (.im (csD p)), some (.own ((q.flatMap (liesOn p)).map cD)), none])
      fun q a r e => turn_name (rs_nx ?_ (rs_clear 3 (rs_extend (x := .own ((liesOn p a).map cD)) rfl (es_call (ea_cons (es_im rfl) (ea_cons (es_im rfl) ea_nil)) ⟨p, a, rfl, hp, rfl⟩) rfl ?_)))))
    (rs_ret (es_call (ea_cons (es_var (x := .own ((cs.flatMap (liesOn p)).map cD)) rfl rfl) ea_nil) ⟨cs.flatMap (liesOn p), _, rfl, .inl rfl, by rw [fl]; exact hl, rfl⟩)))
  · rw [List.flatMap_append, List.map_append]
    simp only [List.flatMap_cons, List.flatMap_nil, List.append_nil]
    rfl
  · rw [List.length_map, List.length_map, fl, liesOn_len]
    have l : q.length + 1 ≤ cs.length := by rw [e, List.length_append, List.length_cons]; omega
    have := Nat.mul_le_mul_right p.length l
    rw [Nat.succ_mul] at this
    omega
theorem O_reached (T : Tx K mg) : Ok P w K mg base CX0 3 d_reached ["cells", "piece"] (spD R_reached) := by
  obtain ⟨fd, F⟩ := T.fn 20 d_reached rfl
  exact ok_data (t := t_reached K P w) F sc_reached (fun _ _ _ _ _ _ us hl => match us, hl with | [_, _], _ => rfl) (len_reached) (by decide) (fun cdv A outer s H E hr => pss_cons (ps_set (i := 2) sc_reached.nd rfl (by first | exact Or.inl rfl | exact Or.inr rfl) (pe_lst (pa_nil))) (pss_cons (ps_for PassesOwn.never rfl (pi_tup (pv 0)) (pg_name (i := 3) sc_reached.nd rfl (by first | exact Or.inl rfl | exact Or.inr rfl)) (pss_one (ps_expr (pe_bm PySem.F.plainAttrs_list PySem.F.slot_list_extend PySem.F.type_list_extend mt_extend (pv 2) (pa_cons (pe_own (O_lies_on T) (hr.mono (by decide)) rfl (T.glo 16 rfl) pass0 (pa_cons (pv 1) (pa_cons (pv 3) (pa_nil)))) (pa_nil)))))) (pss_one (ps_ret (pe_own (O_rising T) (hr.mono (by decide)) rfl (T.glo 2 rfl) pass0 (pa_cons (pv 2) (pa_nil))))))) (fun xs z h => .rt (run_reached (P := P) (w := w) (K := K) xs z h))

/-! ### kept_at -/
def keptQ (cs : List Cell) (p0 : Cell) (p q : List Cell) : List Cell := (q.map fun c => lsC c p0).filter fun q => (liesOn p q).all fun c => decide (c ∈ cs)
theorem keptQ_more (cs : List Cell) (p0 : Cell) (p q : List Cell) (a : Cell) : keptQ cs p0 p (q ++ [a]) = keptQ cs p0 p q ++ (if ((liesOn p (lsC a p0)).all fun c => decide (c ∈ cs)) = true then [lsC a p0] else []) := by
  unfold keptQ
  rw [List.map_append, List.filter_append, List.map_cons, List.map_nil]
  congr 1
  rw [List.filter_cons, List.filter_nil]
theorem keptQ_len (cs : List Cell) (p0 : Cell) (p q : List Cell) : (keptQ cs p0 p q).length ≤ q.length := by
  unfold keptQ
  refine Nat.le_trans (List.length_filter_le _ _) ?_
  rw [List.length_map]
  exact Nat.le_refl _
theorem keptF_len (cs : List Cell) (p0 : Cell) (p : List Cell) : (keptF cs p0 p).length ≤ cs.length := keptQ_len cs p0 p cs
def R_kept_at : List SV → SV → Prop := fun xs z => ∃ (cs : List Cell) (p0 : Cell) (ps : List Cell), xs = [.im (csD cs), .im (csD (p0 :: ps))] ∧ cs.length < 100000 ∧ ps.length < 1000 ∧ z = .im (csD (keptF cs p0 (p0 :: ps)))
theorem sc_kept_at : FnScope ["cells", "piece", "held", "cell", "told", "place", "there"] ["cells", "piece"] (defScope s_kept_at) := ⟨rfl, rfl, rfl, by decide +kernel, rfl, by decide +kernel, by decide +kernel⟩
def t_kept_at (K : PySem.W.Frag) (P : Program) (w : World) : TS := tSeq (tAsg (tDNewT) (gName 2)) (tSeq (tFor (iTup K (tVar 0)) (gName 3) (sDPut (tVar 2) (tVar 3) (tC (.bl true)))) (tSeq (tAsg (tLst (tNil)) (gName 4)) (tSeq (tFor (iTup K (tVar 0)) (gName 3) (tSeq (tAsg (tCall (spD R_less_cell) [] E0 (tCons (tVar 3) (tCons (tOp (rIx K) (tVar 1) (tC (.int 0))) (tNil)))) (gName 5)) (tIfS (tB (tCB (rAll K) (tCons (tLc (iList K (tCall (spD R_lies_on) [] E0 (tCons (tVar 1) (tCons (tVar 5) (tNil))))) (gName 6) (tYes) (tDIn (tVar 6) (tVar 2)) [6]) (tNil)))) (tDrop (tBM K "list" (rAppend) (tVar 4) (tCons (tVar 5) (tNil)))) (tNext)))) (tRet (tCB (xTuple K) (tCons (tVar 4) (tNil)))))))
theorem len_kept_at : ∀ xs z, R_kept_at xs z → xs.length = 2 := by
  rintro xs z ⟨_, _, _, rfl, _⟩
  rfl
theorem run_kept_at : ∀ xs z, R_kept_at xs z → RunS (t_kept_at K P w) (xs.map some ++ List.replicate (7 - xs.length) none) (.rt z) := by
  rintro xs z ⟨cs, p0, ps, rfl, hl, hp, rfl⟩
  have at0 : L2.atI ((p0 :: ps).map cD) 0 = some (cD p0) := atI_nat (j := 0) (xs := (p0 :: ps).map cD) rfl
  have sub : ∀ {q r : List Cell} {a : Cell}, cs = q ++ a :: r → q.length < 100000 := fun {q r a} e => by
    have : cs.length = q.length + (r.length + 1) := by rw [e, List.length_append, List.length_cons]
    omega
  refine rs_seq (rs_asg es_dnew) (rs_seq (rs_forT (ds := cs.map cD) (es_im rfl) (for_enc (f := fun q => [some (.im (csD cs)), some (.im (csD (p0 :: ps))), some (.dic (keysOf q)), none, none, none, none])
      fun q a r e => turn_name (rs_nx ?_ (rs_clear 3 (rs_dput rfl (es_im rfl) es_bl (Nat.lt_of_le_of_lt (keysOf_len q) (sub e)))))))
    (rs_seq (rs_asg (es_lst (ds := []) ea_nil)) (rs_seq (rs_forT (ds := cs.map cD) (es_im rfl) (for_enc (f := fun q => [some (.im (csD cs)), some (.im (csD (p0 :: ps))), some (.dic (keysOf cs)), none, some (.own ((keptQ cs p0 (p0 :: ps) q).map cD)), none, none])
        fun q a r e => turn_name (rs_nx (ρ1 := (([some (.im (csD cs)), some (.im (csD (p0 :: ps))), some (.dic (keysOf cs)), some (.im (cD a)), some (.own ((keptQ cs p0 (p0 :: ps) (q ++ [a])).map cD)), some (.im (cD (lsC a p0))), none] : Rho).set 5 none).set 3 none) rfl (rs_clear 3 (rs_clear 5
          (rs_seq (rs_asg (es_call (z := .im (cD (lsC a p0))) (ea_cons (es_im rfl) (ea_cons (es_op (z := .im (cD p0)) (es_im rfl) es_int (s_ixT at0)) ea_nil)) ⟨a, p0, rfl, rfl⟩))
          (rs_if (b := (liesOn (p0 :: ps) (lsC a p0)).all fun c => decide (c ∈ cs)) (et_B (es_to ?_ (es_cb (ea_cons (es_mapL (enc := cD) (l := liesOn (p0 :: ps) (lsC a p0)) (h := fun d => .bool (decide (d ∈ keysOf cs))) (x := .own ((liesOn (p0 :: ps) (lsC a p0)).map cD))
              (es_call (ea_cons (es_im rfl) (ea_cons (es_im rfl) ea_nil)) ⟨p0 :: ps, lsC a p0, rfl, by rw [List.length_cons]; omega, rfl⟩) rfl (fun d _ => ⟨_, .name 6 _, es_din rfl (es_im rfl)⟩) (by rw [liesOn_len, List.length_cons]; omega)) ea_nil)
              (c_all (bs := (liesOn (p0 :: ps) (lsC a p0)).map fun d => decide (d ∈ keysOf cs)) (by rw [List.map_map] <;> rfl)))))
            (fun h => rs_nx ?_ (rs_append (d := cD (lsC a p0)) rfl (es_im rfl) ?_)) (fun h => rs_nx ?_ rs_next))))))))
      (rs_ret (es_cb (ea_cons (es_var (x := .own ((keptF cs p0 (p0 :: ps)).map cD)) rfl rfl) ea_nil) (c_tuple rfl))))))
  · rw [keysOf_more]
    rfl
  · rw [List.all_map]
    simp only [mem_keysOf]
    rfl
  · rw [keptQ_more, h, if_pos rfl, List.map_append]
    rfl
  · rw [List.length_map]
    exact Nat.lt_of_le_of_lt (keptQ_len cs p0 _ q) (sub e)
  · rw [keptQ_more, h, if_neg Bool.false_ne_true, List.append_nil]
    rfl
theorem O_kept_at (T : Tx K mg) : Ok P w K mg base CX0 3 d_kept_at ["cells", "piece"] (spD R_kept_at) := by
  obtain ⟨fd, F⟩ := T.fn 21 d_kept_at rfl
  exact ok_data (t := t_kept_at K P w) F sc_kept_at (fun _ _ _ _ _ _ us hl => match us, hl with | [_, _], _ => rfl) (len_kept_at) (by decide) (fun cdv A outer s H E hr => pss_cons (ps_set (i := 2) sc_kept_at.nd rfl (by first | exact Or.inl rfl | exact Or.inr rfl) (pe_dnewT)) (pss_cons (ps_for PassesOwn.never rfl (pi_tup (pv 0)) (pg_name (i := 3) sc_kept_at.nd rfl (by first | exact Or.inl rfl | exact Or.inr rfl)) (pss_one (ps_dput (hu_of hr) (pv 2) (pv 3) (pe_bl) rfl))) (pss_cons (ps_set (i := 4) sc_kept_at.nd rfl (by first | exact Or.inl rfl | exact Or.inr rfl) (pe_lst (pa_nil))) (pss_cons (ps_for PassesOwn.never rfl (pi_tup (pv 0)) (pg_name (i := 3) sc_kept_at.nd rfl (by first | exact Or.inl rfl | exact Or.inr rfl)) (pss_cons (ps_set (i := 5) sc_kept_at.nd rfl (by first | exact Or.inl rfl | exact Or.inr rfl) (pe_own (O_less_cell T) (hr.mono (by decide)) rfl (T.glo 9 rfl) pass0 (pa_cons (pv 3) (pa_cons (pe_ix ix_seq (pv 1) (pe_int) (fun _ _ => rfl)) (pa_nil))))) (pss_one (ps_if (pt_val (pe_callB (cr_all rfl) rfl (T.free 69 rfl) boot_all (pa_cons (pe_lc (own := [("there", 6)]) (g := gName 6) (tt := tYes) rfl sc_kept_at.nd (pi_list (pe_own (O_lies_on T) (hr.mono (by decide)) rfl (T.glo 16 rfl) pass0 (pa_cons (pv 1) (pa_cons (pv 5) (pa_nil))))) (blkOk_by (N := ["cells", "piece", "held", "cell", "told", "place", "there"]) (sc := defScope s_kept_at) (by decide +kernel)) (fun _ _ _ _ _ => pg_name (i := 6) sc_kept_at.nd rfl (by first | exact Or.inl rfl | exact Or.inr rfl)) (fun _ _ _ _ _ => pts_nil) (fun _ _ _ _ _ => pe_cmp (pc_din (hu_of hr) (pv 6) (pv 2)))) (pa_nil)))) (pss_one (ps_expr (pe_bm PySem.F.plainAttrs_list PySem.F.slot_list_append PySem.F.type_list_append mt_append (pv 4) (pa_cons (pv 5) (pa_nil))))) (pss_nil))))) (pss_one (ps_ret (pe_callTy r_tuple rfl (T.free 67 rfl) boot_tuple (pa_cons (pv 4) (pa_nil))))))))) (fun xs z h => .rt (run_kept_at (P := P) (w := w) (K := K) xs z h))

theorem rise_len (l : List Cell) : (rise l).length ≤ l.length := by
  have h : ∀ (c : Cell) (k : List Cell), (ins c k).length ≤ k.length + 1 := fun c k => by
    induction k with
    | nil => exact Nat.le_refl _
    | cons d k ih =>
      unfold ins
      split
      · omega
      · split
        · exact Nat.le_refl _
        · rw [List.length_cons, List.length_cons]; omega
  induction l with
  | nil => exact Nat.le_refl _
  | cons c l ih => exact Nat.le_trans (h c (rise l)) (Nat.succ_le_succ ih)
theorem mirr_len (p : List Cell) : (mirr p).length ≤ p.length ∧ (0 < p.length → 0 < (mirr p).length) := by
  unfold mirr
  refine ⟨Nat.le_trans (rise_len _) (by rw [List.length_map]; exact Nat.le_refl _), fun h => ?_⟩
  cases p with
  | nil => simp at h
  | cons a p =>
    have m : ((0 - a.1, 0 - a.2) : Cell) ∈ rise ((a :: p).map fun c => (0 - c.1, 0 - c.2)) := mem_rise.2 (by rw [List.map_cons]; exact List.mem_cons_self)
    exact List.length_pos_of_mem m
def keptM (cs : List Cell) : List Cell → List Cell
  | [] => []
  | p0 :: ps => keptF cs p0 (p0 :: ps)
def growF (s : Shp) (p : List Cell) : Shp := if s.2 = true then (keptM s.1 (mirr p), true) else (reachF s.1 p, false)
def eatF (s : Shp) (p : List Cell) : Shp := if s.2 = true then (reachF s.1 (mirr p), true) else (keptM s.1 p, false)

/-! ### grown -/
def R_grown : List SV → SV → Prop := fun xs z => ∃ (s : Shp) (p0 : Cell) (ps : List Cell), xs = [.im (shD s), .im (csD (p0 :: ps))] ∧ s.1.length * (p0 :: ps).length ≤ 300 ∧ ps.length < 200 ∧ z = .im (shD (growF s (p0 :: ps)))
theorem sc_grown : FnScope ["shape", "piece", "cells", "rest"] ["shape", "piece"] (defScope s_grown) := ⟨rfl, rfl, rfl, by decide +kernel, rfl, by decide +kernel, by decide +kernel⟩
def t_grown (K : PySem.W.Frag) (P : Program) (w : World) : TS := tSeq (tAsg (tVar 0) (gTup K 2 (gCons (gName 2) (gCons (gName 3) (gNil))))) (tSeq (tIfS (tB (tVar 3)) (tRet (tTup (tCons (tCall (spD R_kept_at) [] E0 (tCons (tVar 2) (tCons (tCall (spD R_mirrored) [] E0 (tCons (tVar 1) (tNil))) (tNil)))) (tCons (tC (.bl true)) (tNil))))) (tNext)) (tRet (tTup (tCons (tCall (spD R_reached) [] E0 (tCons (tVar 2) (tCons (tVar 1) (tNil)))) (tCons (tC (.bl false)) (tNil))))))
theorem len_grown : ∀ xs z, R_grown xs z → xs.length = 2 := by
  rintro xs z ⟨_, _, _, rfl, _⟩
  rfl
theorem run_grown : ∀ xs z, R_grown xs z → RunS (t_grown K P w) (xs.map some ++ List.replicate (4 - xs.length) none) (.rt z) := by
  rintro xs z ⟨⟨cs, b⟩, p0, ps, rfl, hl, hp, rfl⟩
  have hm := mirr_len (p0 :: ps)
  have hp2 : (p0 :: ps).length < 300 := by rw [List.length_cons]; omega
  have hl : cs.length * (p0 :: ps).length ≤ 300 := hl
  have hc : cs.length ≤ 300 := Nat.le_trans (Nat.le_mul_of_pos_right _ (Nat.succ_pos _)) hl
  cases b
  · exact rs_seq (rs_asg2 (es_im rfl)) (rs_ifNo (et_B (es_im rfl)) (rs_ret (es_tup (ds := [csD (reachF cs (p0 :: ps)), .bool false]) (ea_cons (es_call (z := .im (csD (reachF cs (p0 :: ps)))) (ea_cons (es_im rfl) (ea_cons (es_im rfl) ea_nil)) ⟨cs, p0 :: ps, rfl, hl, by omega, rfl⟩) (ea_cons es_bl ea_nil)))))
  · obtain ⟨m0, ms, em⟩ : ∃ m0 ms, mirr (p0 :: ps) = m0 :: ms := by
      cases e : mirr (p0 :: ps) with
      | nil => rw [e] at hm; have := hm.2 (by rw [List.length_cons]; omega); simp at this
      | cons a b => exact ⟨a, b, rfl⟩
    have hm2 : ms.length + 1 ≤ (p0 :: ps).length := by have := hm.1; rw [em] at this; exact this
    refine rs_seq (rs_asg2 (es_im rfl)) (rs_ifRt (et_B (es_im rfl)) (rs_ret (es_tup (ds := [csD (keptM cs (mirr (p0 :: ps))), .bool true]) (ea_cons (es_call (z := .im (csD (keptM cs (mirr (p0 :: ps))))) (ea_cons (es_im rfl) (ea_cons (es_call (z := .im (csD (mirr (p0 :: ps)))) (ea_cons (es_im rfl) ea_nil) ⟨p0 :: ps, rfl, by omega, rfl⟩) ea_nil)) (by rw [em]; exact ⟨cs, m0, ms, rfl, by omega, by rw [List.length_cons] at hp2 hm2; omega, rfl⟩)) (ea_cons es_bl ea_nil)))))
theorem O_grown (T : Tx K mg) : Ok P w K mg base CX0 4 d_grown ["shape", "piece"] (spD R_grown) := by
  obtain ⟨fd, F⟩ := T.fn 22 d_grown rfl
  exact ok_data (t := t_grown K P w) F sc_grown (fun _ _ _ _ _ _ us hl => match us, hl with | [_, _], _ => rfl) (len_grown) (by decide) (fun cdv A outer s H E hr => pss_cons (ps_asg (pv 0) (pg_tup rfl (pgs_cons (pg_name (i := 2) sc_grown.nd rfl (by first | exact Or.inl rfl | exact Or.inr rfl)) (pgs_cons (pg_name (i := 3) sc_grown.nd rfl (by first | exact Or.inl rfl | exact Or.inr rfl)) (pgs_nil))))) (pss_cons (ps_if (pt_val (pv 3)) (pss_one (ps_ret (pe_tup (pa_cons (pe_own (O_kept_at T) (hr.mono (by decide)) rfl (T.glo 20 rfl) pass0 (pa_cons (pv 2) (pa_cons (pe_own (O_mirrored T) (hr.mono (by decide)) rfl (T.glo 15 rfl) pass0 (pa_cons (pv 1) (pa_nil))) (pa_nil)))) (pa_cons (pe_bl) (pa_nil)))))) (pss_nil)) (pss_one (ps_ret (pe_tup (pa_cons (pe_own (O_reached T) (hr.mono (by decide)) rfl (T.glo 19 rfl) pass0 (pa_cons (pv 2) (pa_cons (pv 1) (pa_nil)))) (pa_cons (pe_bl) (pa_nil)))))))) (fun xs z h => .rt (run_grown (P := P) (w := w) (K := K) xs z h))

/-! ### eaten -/
def R_eaten : List SV → SV → Prop := fun xs z => ∃ (s : Shp) (p0 : Cell) (ps : List Cell), xs = [.im (shD s), .im (csD (p0 :: ps))] ∧ s.1.length * (p0 :: ps).length ≤ 300 ∧ ps.length < 200 ∧ z = .im (shD (eatF s (p0 :: ps)))
theorem sc_eaten : FnScope ["shape", "piece", "cells", "rest"] ["shape", "piece"] (defScope s_eaten) := ⟨rfl, rfl, rfl, by decide +kernel, rfl, by decide +kernel, by decide +kernel⟩
def t_eaten (K : PySem.W.Frag) (P : Program) (w : World) : TS := tSeq (tAsg (tVar 0) (gTup K 2 (gCons (gName 2) (gCons (gName 3) (gNil))))) (tSeq (tIfS (tB (tVar 3)) (tRet (tTup (tCons (tCall (spD R_reached) [] E0 (tCons (tVar 2) (tCons (tCall (spD R_mirrored) [] E0 (tCons (tVar 1) (tNil))) (tNil)))) (tCons (tC (.bl true)) (tNil))))) (tNext)) (tRet (tTup (tCons (tCall (spD R_kept_at) [] E0 (tCons (tVar 2) (tCons (tVar 1) (tNil)))) (tCons (tC (.bl false)) (tNil))))))
theorem len_eaten : ∀ xs z, R_eaten xs z → xs.length = 2 := by
  rintro xs z ⟨_, _, _, rfl, _⟩
  rfl
theorem run_eaten : ∀ xs z, R_eaten xs z → RunS (t_eaten K P w) (xs.map some ++ List.replicate (4 - xs.length) none) (.rt z) := by
  rintro xs z ⟨⟨cs, b⟩, p0, ps, rfl, hl, hp, rfl⟩
  have hm := mirr_len (p0 :: ps)
  have hp2 : (p0 :: ps).length < 300 := by rw [List.length_cons]; omega
  have hl : cs.length * (p0 :: ps).length ≤ 300 := hl
  have hc : cs.length ≤ 300 := Nat.le_trans (Nat.le_mul_of_pos_right _ (Nat.succ_pos _)) hl
  cases b
  · exact rs_seq (rs_asg2 (es_im rfl)) (rs_ifNo (et_B (es_im rfl)) (rs_ret (es_tup (ds := [csD (keptF cs p0 (p0 :: ps)), .bool false]) (ea_cons (es_call (z := .im (csD (keptF cs p0 (p0 :: ps)))) (ea_cons (es_im rfl) (ea_cons (es_im rfl) ea_nil)) ⟨cs, p0, ps, rfl, by omega, by rw [List.length_cons] at hp2; omega, rfl⟩) (ea_cons es_bl ea_nil)))))
  · obtain ⟨m0, ms, em⟩ : ∃ m0 ms, mirr (p0 :: ps) = m0 :: ms := by
      cases e : mirr (p0 :: ps) with
      | nil => rw [e] at hm; have := hm.2 (by rw [List.length_cons]; omega); simp at this
      | cons a b => exact ⟨a, b, rfl⟩
    have hm2 : ms.length + 1 ≤ (p0 :: ps).length := by have := hm.1; rw [em] at this; exact this
    refine rs_seq (rs_asg2 (es_im rfl)) (rs_ifRt (et_B (es_im rfl)) (rs_ret (es_tup (ds := [csD (reachF cs (mirr (p0 :: ps))), .bool true]) (ea_cons (es_call (z := .im (csD (reachF cs (mirr (p0 :: ps))))) (ea_cons (es_im rfl) (ea_cons (es_call (z := .im (csD (mirr (p0 :: ps)))) (ea_cons (es_im rfl) ea_nil) ⟨p0 :: ps, rfl, by omega, rfl⟩) ea_nil)) ⟨cs, mirr (p0 :: ps), rfl, Nat.le_trans (Nat.mul_le_mul_left _ hm.1) hl, by have := hm.1; omega, rfl⟩) (ea_cons es_bl ea_nil)))))
theorem O_eaten (T : Tx K mg) : Ok P w K mg base CX0 4 d_eaten ["shape", "piece"] (spD R_eaten) := by
  obtain ⟨fd, F⟩ := T.fn 23 d_eaten rfl
  exact ok_data (t := t_eaten K P w) F sc_eaten (fun _ _ _ _ _ _ us hl => match us, hl with | [_, _], _ => rfl) (len_eaten) (by decide) (fun cdv A outer s H E hr => pss_cons (ps_asg (pv 0) (pg_tup rfl (pgs_cons (pg_name (i := 2) sc_eaten.nd rfl (by first | exact Or.inl rfl | exact Or.inr rfl)) (pgs_cons (pg_name (i := 3) sc_eaten.nd rfl (by first | exact Or.inl rfl | exact Or.inr rfl)) (pgs_nil))))) (pss_cons (ps_if (pt_val (pv 3)) (pss_one (ps_ret (pe_tup (pa_cons (pe_own (O_reached T) (hr.mono (by decide)) rfl (T.glo 19 rfl) pass0 (pa_cons (pv 2) (pa_cons (pe_own (O_mirrored T) (hr.mono (by decide)) rfl (T.glo 15 rfl) pass0 (pa_cons (pv 1) (pa_nil))) (pa_nil)))) (pa_cons (pe_bl) (pa_nil)))))) (pss_nil)) (pss_one (ps_ret (pe_tup (pa_cons (pe_own (O_kept_at T) (hr.mono (by decide)) rfl (T.glo 20 rfl) pass0 (pa_cons (pv 2) (pa_cons (pv 1) (pa_nil)))) (pa_cons (pe_bl) (pa_nil)))))))) (fun xs z h => .rt (run_eaten (P := P) (w := w) (K := K) xs z h))
end K91
/-! ==== N1 -/
set_option maxRecDepth 100000
set_option maxHeartbeats 4000000
/-! The texts of whole numbers. -/
namespace K91
open PySem PySem.Spec PyProof.Rows L2 TL
abbrev numT (i : Int) : Str := Str.ofString (toString i)
/-- the figures of a number, without its sign -/
def figs (i : Int) : Str := ⟨(numL i.natAbs).toArray⟩
theorem tl_figs (i : Int) : tl (figs i) = numL i.natAbs := tl_mk _
theorem num_pos {i : Int} (h : 0 ≤ i) : numT i = figs i := by
  obtain ⟨n, rfl⟩ := Int.eq_ofNat_of_zero_le h
  refine ext_tl ?_
  rw [tl_figs, tl_num]
  rfl
theorem tl_neg {i : Int} (h : i < 0) : tl (numT i) = 45 :: numL i.natAbs := by
  obtain ⟨n, rfl⟩ : ∃ n : Nat, i = Int.negSucc n := ⟨(-i - 1).toNat, by omega⟩
  rw [tl_ofString]
  show ("-" ++ Nat.repr (n + 1)).toList.map Char.toNat = _
  rw [String.toList_append, List.map_append, Nat.toList_repr] <;> rfl
theorem starts_minus (x : Str) : Txt.startswith x "-" = decide ((tl x).head? = some 45) := by
  obtain ⟨l, rfl⟩ : ∃ l : List Nat, x = ⟨l.toArray⟩ := ⟨tl x, (mk_tl x).symm⟩
  rw [tl_mk]
  cases l with
  | nil => decide
  | cons c l =>
    have e1 : (Builtin.Str.subAt ⟨(c :: l).toArray⟩ "-" 0) = decide (c = 45) := by
      show ((c :: l).toArray.extract 0 (0 + 1) == #[45]) = _
      rw [List.extract_toArray]
      show ((([c] : List Nat).toArray) == [45].toArray) = _
      rw [Bool.eq_iff_iff, beq_iff_eq, decide_eq_true_iff]
      exact ⟨fun h => (List.cons.inj (congrArg Array.toList h)).1, fun h => by rw [h]⟩
    have e2 : (decide (0 + ("-" : Str).length ≤ (⟨(c :: l).toArray⟩ : Str).length)) = true := decide_eq_true (by show 0 + 1 ≤ (c :: l).toArray.size; rw [List.size_toArray, List.length_cons]; omega)
    show (decide (0 + ("-" : Str).length ≤ (⟨(c :: l).toArray⟩ : Str).length) && Builtin.Str.subAt ⟨(c :: l).toArray⟩ "-" 0) = _
    rw [e1, e2, Bool.true_and, List.head?_cons]
    rw [Bool.eq_iff_iff, decide_eq_true_iff, decide_eq_true_iff, Option.some.injEq]
theorem numL_head : ∀ (n : Nat), ∃ c l, numL n = c :: l ∧ 48 ≤ c ∧ c ≤ 57 ∧ (n ≠ 0 → c ≠ 48) := by
  intro n
  induction n using Nat.strongRecOn with
  | _ n ih =>
    by_cases h : n < 10
    · exact ⟨48 + n, [], numL_lt h, by omega, by omega, by omega⟩
    · obtain ⟨c, l, e, a, b, d⟩ := ih (n / 10) (by omega)
      exact ⟨c, l ++ [48 + n % 10], by rw [numL_step (by omega), e] <;> rfl, a, b, fun _ => d (by omega)⟩
theorem starts_num (i : Int) : Txt.startswith (numT i) "-" = decide (i < 0) := by
  rw [starts_minus]
  by_cases h : i < 0
  · rw [tl_neg h, decide_eq_true h]
    rfl
  · rw [num_pos (by omega), tl_figs, decide_eq_false h]
    obtain ⟨c, l, e, a, b, _⟩ := numL_head i.natAbs
    rw [e, List.head?_cons]
    refine decide_eq_false fun z => ?_
    have := Option.some.inj z
    omega
theorem cut_num {i : Int} (h : i < 0) : cutS (numT i) (some 1) none = figs i := by
  refine ext_tl ?_
  have e : tl (numT i) = 45 :: numL i.natAbs := tl_neg h
  have l : (numT i).length = (numL i.natAbs).length + 1 := by
    show (numT i).cps.size = _
    rw [← Array.length_toList]
    show (tl (numT i)).length = _
    rw [e] <;> rfl
  unfold cutS
  rw [tl_mk, tl_figs]
  have a : HT.sIx (numT i).length 0 (some 1) = 1 := by
    rw [show HT.sIx (numT i).length 0 (some 1) = min 1 (numT i).length from HT.sIx_nat (numT i).length 0 1, l]
    omega
  rw [a, HT.sIx_none]
  show List.take _ (List.drop 1 (tl (numT i))) = _
  rw [e, List.drop_succ_cons, List.drop_zero, List.take_of_length_le]
  omega
theorem figs_len {i : Int} {k : Nat} (hk : 0 < k) (h : i.natAbs < 10 ^ k) : (figs i).length ≤ k := by
  show (figs i).cps.size ≤ k
  rw [← Array.length_toList]
  show (tl (figs i)).length ≤ k
  rw [tl_figs]
  exact numL_len hk h
theorem num_len {i : Int} {k : Nat} (hk : 0 < k) (h : i.natAbs < 10 ^ k) : (numT i).length ≤ k + 1 := by
  by_cases c : i < 0
  · show (numT i).cps.size ≤ k + 1
    rw [← Array.length_toList]
    show (tl (numT i)).length ≤ k + 1
    rw [tl_neg c, List.length_cons]
    have := numL_len hk h
    omega
  · rw [num_pos (by omega)]
    have := figs_len hk h
    omega
theorem int_num' {i : Int} {k : Nat} (hk : 0 < k) (h : i.natAbs < 10 ^ k) (hk2 : k ≤ 600) : PySem.intText? (numT i) = some i := by
  by_cases c : i < 0
  · have e := PySem.intText_neg (tl_neg c) (numL_digits _) (numL_ne _) (by have := num_len hk h; omega)
    rw [numL_val] at e
    rw [e]
    congr 1
    omega
  · obtain ⟨n, rfl⟩ := Int.eq_ofNat_of_zero_le (Int.not_lt.mp c)
    exact int_num (by have := numL_len hk (n := n) h; omega)
theorem figs_ne (i : Int) : figs i ≠ "" := fun z => numL_ne i.natAbs (by rw [← tl_figs, z]; rfl)
theorem figs_digit {i : Int} {c : Nat} (h : c ∈ (figs i).cps.toList) : c ∈ ("0123456789" : Str).cps.toList := by
  have d := numL_digits i.natAbs c h
  have : ∀ c : Nat, 48 ≤ c → c ≤ 57 → c ∈ [48, 49, 50, 51, 52, 53, 54, 55, 56, 57] := by
    intro c a b
    have : c = 48 ∨ c = 49 ∨ c = 50 ∨ c = 51 ∨ c = 52 ∨ c = 53 ∨ c = 54 ∨ c = 55 ∨ c = 56 ∨ c = 57 := by omega
    rcases this with rfl | rfl | rfl | rfl | rfl | rfl | rfl | rfl | rfl | rfl <;> decide
  exact this c d.1 d.2
theorem figs_head (i : Int) : ∃ c, atI (figs i).cps.toList 0 = some c ∧ (c = 48 → i = 0) := by
  obtain ⟨c, l, e, _, _, d⟩ := numL_head i.natAbs
  refine ⟨c, atI_nat (j := 0) (by show (tl (figs i))[0]? = _; rw [tl_figs, e] <;> rfl), fun z => ?_⟩
  by_cases h : i.natAbs = 0
  · omega
  · exact absurd z (d h)
theorem str_eqv (a b : Str) : PyData.eqv (.str a) (.str b) = decide (a = b) := by simp only [PyData.eqv]; rw [Bool.eq_iff_iff, beq_iff_eq, decide_eq_true_iff]
theorem num_free (i : Int) : 32 ∉ tl (numT i) := int_text_free' 32 ⟨by decide, by decide⟩ i
end K91
/-! ==== K4 -/
set_option maxRecDepth 100000
set_option maxHeartbeats 4000000
namespace K91
open PySem PySem.Spec PyProof.Rows L2 SG DL
variable {P : Program} {w : World} {K : PySem.W.Frag} {mg : Str → Option Value} {base : Heap}
theorem for_to {g : TG} {t : TS} {ρ : Rho} {ds ds' : List PyData} {o : Out} (e : ds = ds') (h : ForS g t ρ ds' o) : ForS g t ρ ds o := e ▸ h
theorem rs_clr {t : TS} {ρ ρ1 ρ2 : Rho} (i : Nat) (h : RunS t ρ (.nx ρ1)) (e : ρ1.set i none = ρ2 := by rfl) : RunS t ρ (.nx ρ2) := e ▸ rs_clear i h
theorem strOk_of {s : Str} (h : ∀ c ∈ s.cps.toList, c < 1114112) : PyData.strOk s = true := by
  show s.cps.all _ = true
  rw [← Array.all_toList, List.all_eq_true]
  exact fun c m => decide_eq_true (h c m)
theorem str_shaped {s : Str} (h : PyData.strOk s = true) : SeqAt.shaped (.str s) = true := by simp [SeqAt.shaped, PyData.canLay0, PyData.depth, h]
theorem figs_ok (i : Int) : PyData.strOk (figs i) = true := strOk_of fun c m => by
  have := TL.numL_digits i.natAbs c m
  omega
theorem num_ok (i : Int) : PyData.strOk (numT i) = true := strOk_of fun c m => by
  by_cases h : i < 0
  · have m : c ∈ TL.tl (numT i) := m
    rw [tl_neg h] at m
    rcases List.mem_cons.mp m with z | z
    · omega
    · have := TL.numL_digits i.natAbs c z
      omega
  · rw [num_pos (Int.not_lt.mp h)] at m
    have := TL.numL_digits i.natAbs c m
    omega
theorem sign_ok {i : Int} {c : Nat} (h : L2.atI (figs i).cps.toList 0 = some c) : PyData.strOk ⟨#[c]⟩ = true := strOk_of fun d m => by
  have m : d ∈ [c] := m
  rw [List.mem_singleton] at m
  subst m
  have : d ∈ (figs i).cps.toList := by
    unfold L2.atI at h
    obtain ⟨j, _, h⟩ := Option.bind_eq_some_iff.mp h
    exact List.mem_of_getElem? h
  have := TL.numL_digits i.natAbs d this
  omega
theorem figs_all (i : Int) : ((figs i).cps.toList.map fun c => decide (c ∈ ("0123456789" : Str).cps.toList)).all id = true := by
  rw [List.all_map, List.all_eq_true]
  exact fun c h => decide_eq_true (figs_digit h)
theorem zero_num (i : Int) {c : Nat} (h : c = 48 → i = 0) : (PyData.eqv (.str ⟨#[c]⟩) (.str "0") && !PyData.eqv (.str (numT i)) (.str "0")) = false := by
  rw [str_eqv, str_eqv]
  by_cases z : i = 0
  · subst z
    have : decide (numT 0 = "0") = true := decide_eq_true rfl
    rw [this]
    simp
  · have : decide ((⟨#[c]⟩ : Str) = "0") = false := decide_eq_false fun e => by
      have e2 : (⟨#[c]⟩ : Str).cps.toList = [48] := by rw [e] <;> rfl
      exact z (h (List.cons.inj e2).1)
    rw [this, Bool.false_and]
theorem figs_empty (i : Int) : PyData.eqv (.str (figs i)) (.str "") = false := by
  rw [str_eqv]
  exact decide_eq_false (figs_ne i)

/-! ### number_of -/
def R_number_of : List SV → SV → Prop := fun xs z => ∃ (i : Int), xs = [.im (.str (numT i))] ∧ i.natAbs < 10 ^ 7 ∧ z = .im (.int i)
theorem sc_number_of : FnScope ["word", "figures", "sign"] ["word"] (defScope s_number_of) := ⟨rfl, rfl, rfl, by decide +kernel, rfl, by decide +kernel, by decide +kernel⟩
def t_number_of (K : PySem.W.Frag) (P : Program) (w : World) : TS := tSeq (tAsg (tVar 0) (gName 1)) (tSeq (tIfS (tB (tM1 xStarts (tVar 0) (tC (.str "-")))) (tAsg (tSl (rSlS) (tVar 0) (tPart (tC (.int 1))) (tNoPart)) (gName 1)) (tNext)) (tSeq (tIfS (tOr (tTest (tOp (rEqD K) (tVar 1) (tC (.str "")))) (tOr (tTest (tOp (rI0 fun i j => .bl (decide (j < i))) (tCB (xLen K) (tCons (tVar 1) (tNil))) (tC (.int 7)))) (tNot (tB (tCB (rAll K) (tCons (tLc (iStr (tVar 1)) (gName 2) (tYes) (tOp rInS (tVar 2) (tC (.str "0123456789"))) [2]) (tNil))))))) (tRet (tC .non)) (tNext)) (tSeq (tIfS (tAnd (tTest (tOp (rEqD K) (tOp (rIx K) (tVar 1) (tC (.int 0))) (tC (.str "0")))) (tTest (tOp (rNeD K) (tVar 0) (tC (.str "0"))))) (tRet (tC .non)) (tNext)) (tRet (tCB (xInt) (tCons (tVar 0) (tNil)))))))
theorem len_number_of : ∀ xs z, R_number_of xs z → xs.length = 1 := by
  rintro xs z ⟨_, rfl, _⟩
  rfl
theorem run_number_of : ∀ xs z, R_number_of xs z → RunS (t_number_of K P w) (xs.map some ++ List.replicate (3 - xs.length) none) (.rt z) := by
  rintro xs z ⟨i, rfl, hi, rfl⟩
  have hL := figs_len (k := 7) (by decide) hi
  have hN := num_len (k := 7) (by decide) hi
  have hC : (figs i).cps.toList.length < 100000 := by rw [Array.length_toList]; exact Nat.lt_of_le_of_lt hL (by decide)
  obtain ⟨c, hc, hz⟩ := figs_head i
  refine rs_seq (rs_asg (es_im rfl)) (rs_seq (ρ1 := [some (.im (.str (numT i))), some (.im (.str (figs i))), none])
    (rs_if (b := decide (i < 0)) (et_B (es_to (by rw [starts_num]) (s_starts (es_im rfl) es_str))) (fun h => rs_nx ?_ (rs_asg (s_cutS (es_im rfl) es_int (by omega)))) fun h => rs_nx ?_ rs_next) ?_)
  · rw [cut_num (of_decide_eq_true h)] <;> rfl
  · rw [num_pos (Int.not_lt.mp (of_decide_eq_false h))] <;> rfl
  have T0 : EvT (tTest (tOp (rEqD K) (tVar 1) (tC (.str "")))) [some (.im (.str (numT i))), some (.im (.str (figs i))), none] false := et_to (figs_empty i) (et_test (es_op (es_im rfl) es_str (s_eq rfl rfl (str_shaped (figs_ok i)) (str_shaped (by decide +kernel)))))
  have T1 : EvT (tTest (tOp (rI0 fun i j => .bl (decide (j < i))) (tCB (xLen K) (tCons (tVar 1) tNil)) (tC (.int 7)))) [some (.im (.str (numT i))), some (.im (.str (figs i))), none] false :=
    et_to (decide_eq_false (by omega)) (et_test (es_op (es_cb (ea_cons (es_im rfl) ea_nil) (c_lenS (by omega))) es_int s_gt))
  have E := rs_ret (ρ := [some (.im (.str (numT i))), some (.im (.str (figs i))), none]) (es_cb (ea_cons (es_im (i := 0) rfl) ea_nil) (c_intS (s := numT i) (n := i) (int_num' (k := 7) (by decide) hi (by decide)) (by omega)))
  have T3 : EvT (tAnd (tTest (tOp (rEqD K) (tOp (rIx K) (tVar 1) (tC (.int 0))) (tC (.str "0")))) (tTest (tOp (rNeD K) (tVar 0) (tC (.str "0"))))) [some (.im (.str (numT i))), some (.im (.str (figs i))), none] false :=
    et_to (zero_num i hz) (et_and (et_test (es_op (es_op (es_im rfl) es_int (s_ixS (by omega) hc)) es_str (s_eq rfl rfl (str_shaped (sign_ok hc)) (str_shaped (by decide +kernel))))) fun _ => et_test (es_op (es_im rfl) es_str (s_ne rfl rfl (str_shaped (num_ok i)) (str_shaped (by decide +kernel)))))

  exact rs_ifNo (et_to (b := false) rfl (et_or T0 fun _ => et_or T1 fun _ => et_not (et_to (figs_all i) (et_B (es_cb (ea_cons (es_mapS (h := fun c => .bool (decide (c ∈ ("0123456789" : Str).cps.toList))) (es_im rfl) (fun c _ => ⟨_, .name 2 _, es_op (es_im rfl) es_str s_inC⟩) hC) ea_nil) (c_all (bs := (figs i).cps.toList.map fun c => decide (c ∈ ("0123456789" : Str).cps.toList)) (by rw [List.map_map] <;> rfl))))))) (rs_ifNo T3 E)
theorem O_number_of (T : Tx K mg) : Ok P w K mg base CX0 1 d_number_of ["word"] (spD R_number_of) := by
  obtain ⟨fd, F⟩ := T.fn 46 d_number_of rfl
  exact ok_data (t := t_number_of K P w) F sc_number_of (fun _ _ _ _ _ _ us hl => match us, hl with | [_], _ => rfl) (len_number_of) (by decide) (fun cdv A outer s H E hr => pss_cons (ps_set (i := 1) sc_number_of.nd rfl (by first | exact Or.inl rfl | exact Or.inr rfl) (pv 0)) (pss_cons (ps_if (pt_val (r_starts (pv 0) (pe_str))) (pss_one (ps_set (i := 1) sc_number_of.nd rfl (by first | exact Or.inl rfl | exact Or.inr rfl) (pe_slice sl_str (pv 0) (po_some (pe_int)) (po_none)))) (pss_nil)) (pss_cons (ps_if (PW.pt (pw_or (pt_cmpR (op_eqD hr.units) (pv 1) (pe_str) (nomark _)) (pw_or (pt_cmpR op_gt (pe_callB r_len rfl (T.free 63 rfl) boot_len (pa_cons (pv 1) (pa_nil))) (pe_gint rfl (T.int 87 rfl)) (nomark _)) (pw_or1 (pt_not (pt_val (pe_callB (cr_all rfl) rfl (T.free 69 rfl) boot_all (pa_cons (pe_lc (own := [("sign", 2)]) (g := gName 2) (tt := tYes) rfl sc_number_of.nd (pi_str (pv 1)) (blkOk_by (N := ["word", "figures", "sign"]) (sc := defScope s_number_of) (by decide +kernel)) (fun _ _ _ _ _ => pg_name (i := 2) sc_number_of.nd rfl (by first | exact Or.inl rfl | exact Or.inr rfl)) (fun _ _ _ _ _ => pts_nil) (fun _ _ _ _ _ => pe_cmpR op_inS (pv 2) (pe_gstr rfl (T.str 92 rfl)) rfl)) (pa_nil))))))))) (pss_one (ps_ret (pe_non))) (pss_nil)) (pss_cons (ps_if (PW.pt (pw_and (pt_cmpR (op_eqD hr.units) (pe_ix ix_seq (pv 1) (pe_int) (fun _ _ => rfl)) (pe_str) (nomark _)) (pw_and1 (pt_cmpR (op_neD hr.units) (pv 0) (pe_str) (nomark _))))) (pss_one (ps_ret (pe_non))) (pss_nil)) (pss_one (ps_ret (pe_callTy r_int rfl (T.free 75 rfl) boot_int (pa_cons (pv 0) (pa_nil))))))))) (fun xs z h => .rt (run_number_of (P := P) (w := w) (K := K) xs z h))

/-! ### plain_number -/
def R_plain_number : List SV → SV → Prop := fun xs z => ∃ (i : Int), xs = [.im (.str (numT i))] ∧ i.natAbs < 10 ^ 13 ∧ z = .im (.int i)
theorem sc_plain_number : FnScope ["word", "figures", "sign"] ["word"] (defScope s_plain_number) := ⟨rfl, rfl, rfl, by decide +kernel, rfl, by decide +kernel, by decide +kernel⟩
def t_plain_number (K : PySem.W.Frag) (P : Program) (w : World) : TS := tSeq (tAsg (tVar 0) (gName 1)) (tSeq (tIfS (tB (tM1 xStarts (tVar 0) (tC (.str "-")))) (tAsg (tSl (rSlS) (tVar 0) (tPart (tC (.int 1))) (tNoPart)) (gName 1)) (tNext)) (tSeq (tIfS (tOr (tTest (tOp (rEqD K) (tVar 1) (tC (.str "")))) (tTest (tOp (rI0 fun i j => .bl (decide (j < i))) (tCB (xLen K) (tCons (tVar 1) (tNil))) (tC (.int 13))))) (tRet (tC .non)) (tNext)) (tSeq (tFor (iStr (tVar 1)) (gName 2) (tIfS (tTest (tOp rNotInS (tVar 2) (tC (.str "0123456789")))) (tRet (tC .non)) (tNext))) (tSeq (tIfS (tAnd (tTest (tOp (rEqD K) (tOp (rIx K) (tVar 1) (tC (.int 0))) (tC (.str "0")))) (tTest (tOp (rNeD K) (tVar 0) (tC (.str "0"))))) (tRet (tC .non)) (tNext)) (tRet (tCB (xInt) (tCons (tVar 0) (tNil))))))))
theorem len_plain_number : ∀ xs z, R_plain_number xs z → xs.length = 1 := by
  rintro xs z ⟨_, rfl, _⟩
  rfl
theorem run_plain_number : ∀ xs z, R_plain_number xs z → RunS (t_plain_number K P w) (xs.map some ++ List.replicate (3 - xs.length) none) (.rt z) := by
  rintro xs z ⟨i, rfl, hi, rfl⟩
  have hL := figs_len (k := 13) (by decide) hi
  have hN := num_len (k := 13) (by decide) hi
  have hC : (figs i).cps.toList.length < 100000 := by rw [Array.length_toList]; exact Nat.lt_of_le_of_lt hL (by decide)
  obtain ⟨c, hc, hz⟩ := figs_head i
  refine rs_seq (rs_asg (es_im rfl)) (rs_seq (ρ1 := [some (.im (.str (numT i))), some (.im (.str (figs i))), none])
    (rs_if (b := decide (i < 0)) (et_B (es_to (by rw [starts_num]) (s_starts (es_im rfl) es_str))) (fun h => rs_nx ?_ (rs_asg (s_cutS (es_im rfl) es_int (by omega)))) fun h => rs_nx ?_ rs_next) ?_)
  · rw [cut_num (of_decide_eq_true h)] <;> rfl
  · rw [num_pos (Int.not_lt.mp (of_decide_eq_false h))] <;> rfl
  have T0 : EvT (tTest (tOp (rEqD K) (tVar 1) (tC (.str "")))) [some (.im (.str (numT i))), some (.im (.str (figs i))), none] false := et_to (figs_empty i) (et_test (es_op (es_im rfl) es_str (s_eq rfl rfl (str_shaped (figs_ok i)) (str_shaped (by decide +kernel)))))
  have T1 : EvT (tTest (tOp (rI0 fun i j => .bl (decide (j < i))) (tCB (xLen K) (tCons (tVar 1) tNil)) (tC (.int 13)))) [some (.im (.str (numT i))), some (.im (.str (figs i))), none] false :=
    et_to (decide_eq_false (by omega)) (et_test (es_op (es_cb (ea_cons (es_im rfl) ea_nil) (c_lenS (by omega))) es_int s_gt))
  have E := rs_ret (ρ := [some (.im (.str (numT i))), some (.im (.str (figs i))), none]) (es_cb (ea_cons (es_im (i := 0) rfl) ea_nil) (c_intS (s := numT i) (n := i) (int_num' (k := 13) (by decide) hi (by decide)) (by omega)))
  have T3 : EvT (tAnd (tTest (tOp (rEqD K) (tOp (rIx K) (tVar 1) (tC (.int 0))) (tC (.str "0")))) (tTest (tOp (rNeD K) (tVar 0) (tC (.str "0"))))) [some (.im (.str (numT i))), some (.im (.str (figs i))), none] false :=
    et_to (zero_num i hz) (et_and (et_test (es_op (es_op (es_im rfl) es_int (s_ixS (by omega) hc)) es_str (s_eq rfl rfl (str_shaped (sign_ok hc)) (str_shaped (by decide +kernel))))) fun _ => et_test (es_op (es_im rfl) es_str (s_ne rfl rfl (str_shaped (num_ok i)) (str_shaped (by decide +kernel)))))

  refine rs_ifNo (et_to (b := false) rfl (et_or T0 fun _ => T1)) (rs_seq (rs_forS (es_im rfl) (for_enc (enc := fun c : Nat => .str ⟨#[c]⟩) (f := fun _ => [some (.im (.str (numT i))), some (.im (.str (figs i))), none])
    fun p a r e => turn_name (rs_nx rfl (rs_clear 2 (rs_ifF (et_to ?_ (et_test (es_op (es_im rfl) es_str s_notInC))) rs_next))))) (rs_ifNo T3 E))
  have m : a ∈ (figs i).cps.toList := by rw [e]; simp
  rw [decide_eq_true (figs_digit m)] <;> rfl
theorem O_plain_number (T : Tx K mg) : Ok P w K mg base CX0 1 d_plain_number ["word"] (spD R_plain_number) := by
  obtain ⟨fd, F⟩ := T.fn 55 d_plain_number rfl
  exact ok_data (t := t_plain_number K P w) F sc_plain_number (fun _ _ _ _ _ _ us hl => match us, hl with | [_], _ => rfl) (len_plain_number) (by decide) (fun cdv A outer s H E hr => pss_cons (ps_set (i := 1) sc_plain_number.nd rfl (by first | exact Or.inl rfl | exact Or.inr rfl) (pv 0)) (pss_cons (ps_if (pt_val (r_starts (pv 0) (pe_str))) (pss_one (ps_set (i := 1) sc_plain_number.nd rfl (by first | exact Or.inl rfl | exact Or.inr rfl) (pe_slice sl_str (pv 0) (po_some (pe_int)) (po_none)))) (pss_nil)) (pss_cons (ps_if (PW.pt (pw_or (pt_cmpR (op_eqD hr.units) (pv 1) (pe_str) (nomark _)) (pw_or1 (pt_cmpR op_gt (pe_callB r_len rfl (T.free 63 rfl) boot_len (pa_cons (pv 1) (pa_nil))) (pe_gint rfl (T.int 88 rfl)) (nomark _))))) (pss_one (ps_ret (pe_non))) (pss_nil)) (pss_cons (ps_for PassesOwn.never rfl (pi_str (pv 1)) (pg_name (i := 2) sc_plain_number.nd rfl (by first | exact Or.inl rfl | exact Or.inr rfl)) (pss_one (ps_if (pt_cmpR op_notInS (pv 2) (pe_gstr rfl (T.str 93 rfl)) rfl) (pss_one (ps_ret (pe_non))) (pss_nil)))) (pss_cons (ps_if (PW.pt (pw_and (pt_cmpR (op_eqD hr.units) (pe_ix ix_seq (pv 1) (pe_int) (fun _ _ => rfl)) (pe_str) (nomark _)) (pw_and1 (pt_cmpR (op_neD hr.units) (pv 0) (pe_str) (nomark _))))) (pss_one (ps_ret (pe_non))) (pss_nil)) (pss_one (ps_ret (pe_callTy r_int rfl (T.free 75 rfl) boot_int (pa_cons (pv 0) (pa_nil)))))))))) (fun xs z h => .rt (run_plain_number (P := P) (w := w) (K := K) xs z h))

/-! ### drawn -/
def R_drawn : List SV → SV → Prop := fun xs z => ∃ (s : Shp) (c : Cell), xs = [.im (shD s), .im (.int c.1), .im (.int c.2), .im (.int 1), .im (.int 1)] ∧ c.1.natAbs < 2 ^ 61 ∧ c.2.natAbs < 2 ^ 61 ∧ s.1.length < 100000 ∧ z = .im (.str (if hasB s c = true then "#" else "."))
theorem sc_drawn : FnScope ["shape", "top", "left", "rows", "columns", "cells", "rest", "seen", "cell", "lines", "row", "signs", "column"] ["shape", "top", "left", "rows", "columns"] (defScope s_drawn) := ⟨rfl, rfl, rfl, by decide +kernel, rfl, by decide +kernel, by decide +kernel⟩
def t_drawn (K : PySem.W.Frag) (P : Program) (w : World) : TS := tSeq (tAsg (tVar 0) (gTup K 2 (gCons (gName 5) (gCons (gName 6) (gNil))))) (tSeq (tAsg (tDNewT) (gName 7)) (tSeq (tFor (iTup K (tVar 5)) (gName 8) (sDPut (tVar 7) (tVar 8) (tC (.bl true)))) (tSeq (tAsg (tLst (tNil)) (gName 9)) (tSeq (tFor (iRng2 (tCons (tVar 1) (tCons (tOp (xAdd K) (tVar 1) (tVar 3)) (tNil)))) (gName 10) (tSeq (tAsg (tLst (tNil)) (gName 11)) (tSeq (tFor (iRng2 (tCons (tVar 2) (tCons (tOp (xAdd K) (tVar 2) (tVar 4)) (tNil)))) (gName 12) (tIfS (tTest (tOp (rNeD K) (tDIn (tTup (tCons (tVar 10) (tCons (tVar 12) (tNil)))) (tVar 7)) (tVar 6))) (tDrop (tBM K "list" (rAppend) (tVar 11) (tCons (tC (.str "#")) (tNil)))) (tDrop (tBM K "list" (rAppend) (tVar 11) (tCons (tC (.str ".")) (tNil)))))) (tDrop (tBM K "list" (rAppend) (tVar 9) (tCons (tM1 (xJoin K) (tC (.str "")) (tVar 11)) (tNil))))))) (tRet (tM1 (xJoin K) (tC (.str "\n")) (tVar 9)))))))
theorem len_drawn : ∀ xs z, R_drawn xs z → xs.length = 5 := by
  rintro xs z ⟨_, _, rfl, _⟩
  rfl
theorem run_drawn : ∀ xs z, R_drawn xs z → RunS (t_drawn K P w) (xs.map some ++ List.replicate (13 - xs.length) none) (.rt z) := by
  rintro xs z ⟨s, c, rfl, h1, h2, hl, rfl⟩
  have r1 : ((c.1 + 1 - c.1).toNat) = 1 := by omega
  have r2 : ((c.2 + 1 - c.2).toNat) = 1 := by omega
  have hb : (!PyData.eqv (.bool (decide (c ∈ keysOf s.1))) (.bool s.2)) = hasB s c := by
    rw [eqv_bool]
    unfold hasB
    simp only [mem_keysOf]
    rfl
  refine rs_seq (rs_asg2 (es_im rfl)) (rs_seq (rs_asg es_dnew) (rs_seq (rs_forT (ds := s.1.map cD) (es_im rfl) (for_enc (f := fun q => [some (.im (shD s)), some (.im (.int c.1)), some (.im (.int c.2)), some (.im (.int 1)), some (.im (.int 1)), some (.im (csD s.1)), some (.im (.bool s.2)), some (.dic (keysOf q)), none, none, none, none, none])
      fun q a r e => turn_name (rs_nx (by rw [keysOf_more] <;> rfl) (rs_clear 8 (rs_dput rfl (es_im rfl) es_bl ?_)))))
    (rs_seq (rs_asg (es_lst (ds := []) ea_nil)) (rs_seq (rs_forR2 (lo := c.1) (hi := c.1 + 1) (ea_cons (es_im rfl) (ea_cons (es_op (es_im rfl) (es_im rfl) s_add) ea_nil)) (by omega)
        (for_to (by rw [r1] <;> rfl) (.cons (d := .int (c.1 + (0 : Nat))) (ds := []) (ρ1 := [some (.im (shD s)), some (.im (.int c.1)), some (.im (.int c.2)), some (.im (.int 1)), some (.im (.int 1)), some (.im (csD s.1)), some (.im (.bool s.2)), some (.dic (keysOf s.1)), none, some (.own [.str (if hasB s c = true then "#" else ".")]), none, none, none]) ?_ .nil)))
      (rs_ret (s_join (ys := [if hasB s c = true then "#" else "."]) es_str (es_var (x := .own [.str (if hasB s c = true then "#" else ".")]) rfl rfl) rfl (by split <;> decide)))))))
  · have := keysOf_len q
    have l : q.length ≤ s.1.length := by rw [e, List.length_append]; omega
    omega
  · refine turn_name (rs_clr 10 (rs_clr 11 (rs_seq (rs_asg (es_lst (ds := []) ea_nil)) (rs_seq (rs_forR2 (lo := c.2) (hi := c.2 + 1) (ea_cons (es_im rfl) (ea_cons (es_op (es_im rfl) (es_im rfl) s_add) ea_nil)) (by omega)
        (for_to (by rw [r2] <;> rfl) (.cons (d := .int (c.2 + (0 : Nat))) (ds := []) (ρ1 := [some (.im (shD s)), some (.im (.int c.1)), some (.im (.int c.2)), some (.im (.int 1)), some (.im (.int 1)), some (.im (csD s.1)), some (.im (.bool s.2)), some (.dic (keysOf s.1)), none, some (.own []), some (.im (.int (c.1 + (0 : Nat)))), some (.own [.str (if hasB s c = true then "#" else ".")]), none]) (turn_name (rs_clr (ρ1 := [some (.im (shD s)), some (.im (.int c.1)), some (.im (.int c.2)), some (.im (.int 1)), some (.im (.int 1)), some (.im (csD s.1)), some (.im (.bool s.2)), some (.dic (keysOf s.1)), none, some (.own []), some (.im (.int (c.1 + (0 : Nat)))), some (.own [.str (if hasB s c = true then "#" else ".")]), some (.im (.int (c.2 + (0 : Nat))))]) 12 ?_)) .nil)))
        (rs_append (ds := []) (d := .str (if hasB s c = true then "#" else ".")) rfl (es_to ?_ (s_join (ys := [if hasB s c = true then "#" else "."]) es_str (es_var (x := .own [.str (if hasB s c = true then "#" else ".")]) rfl rfl) rfl (by split <;> decide))) (by decide))))))
    · refine rs_if (b := hasB s c) (o := .nx [some (.im (shD s)), some (.im (.int c.1)), some (.im (.int c.2)), some (.im (.int 1)), some (.im (.int 1)), some (.im (csD s.1)), some (.im (.bool s.2)), some (.dic (keysOf s.1)), none, some (.own []), some (.im (.int (c.1 + (0 : Nat)))), some (.own [.str (if hasB s c = true then "#" else ".")]), some (.im (.int (c.2 + (0 : Nat))))])
        (et_to hb (et_test (es_op (es_din (c := c) rfl (es_to ?_ (es_tup (ds := [.int (c.1 + (0 : Nat)), .int (c.2 + (0 : Nat))]) (ea_cons (es_im rfl) (ea_cons (es_im rfl) ea_nil))))) (es_im rfl) (s_ne rfl rfl (bool_shaped _) (bool_shaped _))))) (fun h => rs_nx ?_ (rs_append rfl es_str (by decide))) (fun h => rs_nx ?_ (rs_append rfl es_str (by decide)))
      · show SV.im (.tuple [.int (c.1 + 0), .int (c.2 + 0)]) = .im (cD c)
        rw [Int.add_zero, Int.add_zero] <;> rfl
      · rw [h] <;> rfl
      · rw [h] <;> rfl
    · split <;> rfl
theorem O_drawn (T : Tx K mg) : Ok P w K mg base CX0 1 d_drawn ["shape", "top", "left", "rows", "columns"] (spD R_drawn) := by
  obtain ⟨fd, F⟩ := T.fn 45 d_drawn rfl
  exact ok_data (t := t_drawn K P w) F sc_drawn (fun _ _ _ _ _ _ us hl => match us, hl with | [_, _, _, _, _], _ => rfl) (len_drawn) (by decide) (fun cdv A outer s H E hr => pss_cons (ps_asg (pv 0) (pg_tup rfl (pgs_cons (pg_name (i := 5) sc_drawn.nd rfl (by first | exact Or.inl rfl | exact Or.inr rfl)) (pgs_cons (pg_name (i := 6) sc_drawn.nd rfl (by first | exact Or.inl rfl | exact Or.inr rfl)) (pgs_nil))))) (pss_cons (ps_set (i := 7) sc_drawn.nd rfl (by first | exact Or.inl rfl | exact Or.inr rfl) (pe_dnewT)) (pss_cons (ps_for PassesOwn.never rfl (pi_tup (pv 5)) (pg_name (i := 8) sc_drawn.nd rfl (by first | exact Or.inl rfl | exact Or.inr rfl)) (pss_one (ps_dput (hu_of hr) (pv 7) (pv 8) (pe_bl) rfl))) (pss_cons (ps_set (i := 9) sc_drawn.nd rfl (by first | exact Or.inl rfl | exact Or.inr rfl) (pe_lst (pa_nil))) (pss_cons (ps_for PassesOwn.never rfl (pi_range2 rfl (T.free 71 rfl) (pa_cons (pv 1) (pa_cons (pe_op o_add (pv 1) (pv 3)) (pa_nil)))) (pg_name (i := 10) sc_drawn.nd rfl (by first | exact Or.inl rfl | exact Or.inr rfl)) (pss_cons (ps_set (i := 11) sc_drawn.nd rfl (by first | exact Or.inl rfl | exact Or.inr rfl) (pe_lst (pa_nil))) (pss_cons (ps_for PassesOwn.never rfl (pi_range2 rfl (T.free 71 rfl) (pa_cons (pv 2) (pa_cons (pe_op o_add (pv 2) (pv 4)) (pa_nil)))) (pg_name (i := 12) sc_drawn.nd rfl (by first | exact Or.inl rfl | exact Or.inr rfl)) (pss_one (ps_if (pt_cmpR (op_neD hr.units) (pe_cmp (pc_din (hu_of hr) (pe_tup (pa_cons (pv 10) (pa_cons (pv 12) (pa_nil)))) (pv 7))) (pv 6) (nomark _)) (pss_one (ps_expr (pe_bm PySem.F.plainAttrs_list PySem.F.slot_list_append PySem.F.type_list_append mt_append (pv 11) (pa_cons (pe_gstr rfl (T.str 90 rfl)) (pa_nil))))) (pss_one (ps_expr (pe_bm PySem.F.plainAttrs_list PySem.F.slot_list_append PySem.F.type_list_append mt_append (pv 11) (pa_cons (pe_gstr rfl (T.str 91 rfl)) (pa_nil)))))))) (pss_one (ps_expr (pe_bm PySem.F.plainAttrs_list PySem.F.slot_list_append PySem.F.type_list_append mt_append (pv 9) (pa_cons (r_join (pe_str) (pv 11)) (pa_nil)))))))) (pss_one (ps_ret (r_join (pe_str) (pv 9))))))))) (fun xs z h => .rt (run_drawn (P := P) (w := w) (K := K) xs z h))
end K91
/-! ==== K5 -/
set_option maxRecDepth 100000
set_option maxHeartbeats 4000000
namespace K91
open PySem PySem.Spec PyProof.Rows L2 SG DL
variable {P : Program} {w : World} {K : PySem.W.Frag} {mg : Str → Option Value} {base : Heap}
/-- the type's name of data -/
def tyN : PyData → String
  | .none => "NoneType"
  | .bool _ => "bool"
  | .int _ => "int"
  | .str _ => "str"
  | _ => "tuple"
def isIm : PyData → Bool
  | .none => true
  | .bool _ => true
  | .int _ => true
  | .str _ => true
  | .tuple _ => true
  | _ => false
theorem es_isi {ρ : Rho} {te : TE} {d : PyData} {n : String} {b : Bool} (h : EvS te ρ (.im d)) (hk : kitB (tyN d) n = some b) : EvS (tCB (rIsi K) (tCons te (tCons (tC (.ty n)) tNil))) ρ (.im (.bool b)) := fun B σ H Q S q =>
  h B σ H _ S fun v H1 g r => by
    have ty : TyX K H1 v (.type (tyN d)) := by
      cases r with
      | non => exact .base .non
      | bl b => exact .base (.bl b)
      | int i => exact .base (.int i)
      | str x => exact .base (.str x)
      | tup a _ => exact .base (.tup a)
    exact ⟨v, .ty n, .type (tyN d), .type n, b, rfl, .ty n, ty, kit_ty hk, q _ H1 g (.bl b)⟩
theorem es_chain {ρ : Rho} {ta tb tc : TE} {x y z : SV} {r r' : R2} {b1 b2 : Bool} (ha : EvS ta ρ x) (hb : EvS tb ρ y) (hc : EvS tc ρ z) (h1 : OpS r x y (.im (.bool b1))) (h2 : OpS r' y z (.im (.bool b2))) (px : x.plain = true := by rfl) (py : y.plain = true := by rfl) (pz : z.plain = true := by rfl) :
    EvS (tChain r r' ta tb tc) ρ (.im (.bool (b1 && b2))) := fun B σ H Q S q => ha B σ H _ S fun v H1 g1 r1 => hb B σ H1 _ (S.grow g1) fun u H2 g2 r2 => by
  refine h1 H2 v u _ ((r1.gr g2).asArg px) (r2.asArg py) fun k H3 g3 rk => ⟨b1, Im.bl_v rk, ?_⟩
  cases b1 with
  | false => exact iteF (q _ H3 ((g1.trans g2).trans g3) (.bl false))
  | true => exact iteT (hc B σ H3 _ (S.grow ((g1.trans g2).trans g3)) fun t H4 g4 r4 => h2 H4 u t Q (((r2.gr g3).gr g4).asArg py) (r4.asArg pz) fun m H5 g5 r5 => q m H5 ((((g1.trans g2).trans g3).trans g4).trans g5) (by
      have e := Im.bl_v r5
      subst e
      exact .bl _))
def farC (c : Cell) : Bool := decide (c.1.natAbs ≤ 1000000000000) && decide (c.2.natAbs ≤ 1000000000000)

/-! ### is_number -/
def R_is_number : List SV → SV → Prop := fun xs z => ∃ (i m : Int), xs = [.im (.int i), .im (.int m)] ∧ z = .im (.bool (decide (0 - m ≤ i) && decide (i ≤ m)))
theorem sc_is_number : FnScope ["thing", "most"] ["thing", "most"] (defScope s_is_number) := ⟨rfl, rfl, rfl, by decide +kernel, rfl, by decide +kernel, by decide +kernel⟩
def t_is_number (K : PySem.W.Frag) (P : Program) (w : World) : TS := tSeq (tIfS (tOr (tB (tCB (rIsi K) (tCons (tVar 0) (tCons (tC (.ty "bool")) (tNil))))) (tNot (tB (tCB (rIsi K) (tCons (tVar 0) (tCons (tC (.ty "int")) (tNil))))))) (tRet (tC (.bl false))) (tNext)) (tRet (tChain (rI0 fun i j => .bl (decide (i ≤ j))) (rI0 fun i j => .bl (decide (i ≤ j))) (tOp (rI0 fun i j => .int (i - j)) (tC (.int 0)) (tVar 1)) (tVar 0) (tVar 1)))
theorem len_is_number : ∀ xs z, R_is_number xs z → xs.length = 2 := by
  rintro xs z ⟨_, _, rfl, _⟩
  rfl
theorem run_is_number : ∀ xs z, R_is_number xs z → RunS (t_is_number K P w) (xs.map some ++ List.replicate (2 - xs.length) none) (.rt z) := by
  rintro xs z ⟨i, m, rfl, rfl⟩
  exact rs_ifNo (et_to rfl (et_or (a := false) (et_B (es_isi (d := .int i) (es_im rfl) (by show kitB "int" "bool" = some false; decide +kernel))) fun _ => et_not (a := true) (et_B (es_isi (d := .int i) (es_im rfl) (by show kitB "int" "int" = some true; decide +kernel))))) (rs_ret (es_chain (es_op es_int (es_im rfl) s_sub) (es_im rfl) (es_im rfl) s_le s_le))
theorem O_is_number (T : Tx K mg) : Ok P w K mg base CX0 1 d_is_number ["thing", "most"] (spD R_is_number) := by
  obtain ⟨fd, F⟩ := T.fn 1 d_is_number rfl
  exact ok_data (t := t_is_number K P w) F sc_is_number (fun _ _ _ _ _ _ us hl => match us, hl with | [_, _], _ => rfl) (len_is_number) (by decide) (fun cdv A outer s H E hr => pss_cons (ps_if (PW.pt (pw_or (pt_val (pe_callB call_isi rfl (T.free 64 rfl) boot_isinstance (pa_cons (pv 0) (pa_cons (pe_bltn rfl (T.free 76 rfl) boot_bool (by rfl)) (pa_nil))))) (pw_or1 (pt_not (pt_val (pe_callB call_isi rfl (T.free 64 rfl) boot_isinstance (pa_cons (pv 0) (pa_cons (pe_bltn rfl (T.free 75 rfl) boot_int (by rfl)) (pa_nil))))))))) (pss_one (ps_ret (pe_bl))) (pss_nil)) (pss_one (ps_ret (pe_chain op_le op_le (pe_op op_sub (pe_int) (pv 1)) (pv 0) (pv 1))))) (fun xs z h => .rt (run_is_number (P := P) (w := w) (K := K) xs z h))

/-! ### is_cell -/
def R_is_cell : List SV → SV → Prop := fun xs z => ∃ (c : Cell) (m : Int), xs = [.im (cD c), .im (.int m)] ∧ z = .im (.bool ((decide (0 - m ≤ c.1) && decide (c.1 ≤ m)) && (decide (0 - m ≤ c.2) && decide (c.2 ≤ m))))
theorem sc_is_cell : FnScope ["thing", "most"] ["thing", "most"] (defScope s_is_cell) := ⟨rfl, rfl, rfl, by decide +kernel, rfl, by decide +kernel, by decide +kernel⟩
def t_is_cell (K : PySem.W.Frag) (P : Program) (w : World) : TS := tSeq (tIfS (tOr (tNot (tB (tCB (rIsi K) (tCons (tVar 0) (tCons (tC (.ty "tuple")) (tNil)))))) (tTest (tOp (rNeD K) (tCB (xLen K) (tCons (tVar 0) (tNil))) (tC (.int 2))))) (tRet (tC (.bl false))) (tNext)) (tRet (tAndV (tCall (spD R_is_number) [] E0 (tCons (tOp (rIx K) (tVar 0) (tC (.int 0))) (tCons (tVar 1) (tNil)))) (tCall (spD R_is_number) [] E0 (tCons (tOp (rIx K) (tVar 0) (tC (.int 1))) (tCons (tVar 1) (tNil))))))
theorem len_is_cell : ∀ xs z, R_is_cell xs z → xs.length = 2 := by
  rintro xs z ⟨_, _, rfl, _⟩
  rfl
theorem run_is_cell : ∀ xs z, R_is_cell xs z → RunS (t_is_cell K P w) (xs.map some ++ List.replicate (2 - xs.length) none) (.rt z) := by
  rintro xs z ⟨c, m, rfl, rfl⟩
  exact rs_ifNo (et_to rfl (et_or (a := false) (et_not (a := true) (et_B (es_isi (es_im (d := cD c) rfl) (by show kitB "tuple" "tuple" = some true; decide +kernel)))) fun _ => et_to (a := !(PyData.eqv (.int 2) (.int 2))) (by decide +kernel) (et_test (es_op (es_cb (ea_cons (es_im rfl) ea_nil) c_lenT) es_int (s_ne rfl rfl (int_shaped _) (int_shaped _))))))
    (rs_ret (es_andV (es_call (ea_cons (es_op (es_im rfl) es_int (s_ixT rfl)) (ea_cons (es_im rfl) ea_nil)) ⟨c.1, m, rfl, rfl⟩) fun _ => es_call (ea_cons (es_op (es_im rfl) es_int (s_ixT rfl)) (ea_cons (es_im rfl) ea_nil)) ⟨c.2, m, rfl, rfl⟩))
theorem O_is_cell (T : Tx K mg) : Ok P w K mg base CX0 2 d_is_cell ["thing", "most"] (spD R_is_cell) := by
  obtain ⟨fd, F⟩ := T.fn 2 d_is_cell rfl
  exact ok_data (t := t_is_cell K P w) F sc_is_cell (fun _ _ _ _ _ _ us hl => match us, hl with | [_, _], _ => rfl) (len_is_cell) (by decide) (fun cdv A outer s H E hr => pss_cons (ps_if (PW.pt (pw_or (pt_not (pt_val (pe_callB call_isi rfl (T.free 64 rfl) boot_isinstance (pa_cons (pv 0) (pa_cons (pe_bltn rfl (T.free 67 rfl) boot_tuple (by rfl)) (pa_nil)))))) (pw_or1 (pt_cmpR (op_neD hr.units) (pe_callB r_len rfl (T.free 63 rfl) boot_len (pa_cons (pv 0) (pa_nil))) (pe_int) (nomark _))))) (pss_one (ps_ret (pe_bl))) (pss_nil)) (pss_one (ps_ret (pe_and (pe_own (O_is_number T) (hr.mono (by decide)) rfl (T.glo 0 rfl) pass0 (pa_cons (pe_ix ix_seq (pv 0) (pe_int) (fun _ _ => rfl)) (pa_cons (pv 1) (pa_nil)))) (pe_one (pe_own (O_is_number T) (hr.mono (by decide)) rfl (T.glo 0 rfl) pass0 (pa_cons (pe_ix ix_seq (pv 0) (pe_int) (fun _ _ => rfl)) (pa_cons (pv 1) (pa_nil))))))))) (fun xs z h => .rt (run_is_cell (P := P) (w := w) (K := K) xs z h))

/-! ### let_by -/
def R_let_by : List SV → SV → Prop := fun xs z => ∃ (s : Shp), xs = [.im (shD s)] ∧ s.1.length ≤ 400 ∧ s.1.all farC = true ∧ z = .im (shD s)
theorem sc_let_by : FnScope ["shape", "cell"] ["shape"] (defScope s_let_by) := ⟨rfl, rfl, rfl, by decide +kernel, rfl, by decide +kernel, by decide +kernel⟩
def t_let_by (K : PySem.W.Frag) (P : Program) (w : World) : TS := tSeq (tIfS (tOr (tTest (tOp (rI0 fun i j => .bl (decide (j < i))) (tCB (xLen K) (tCons (tOp (rIx K) (tVar 0) (tC (.int 0))) (tNil))) (tC (.int 400)))) (tNot (tB (tCB (rAll K) (tCons (tLc (iTup K (tOp (rIx K) (tVar 0) (tC (.int 0)))) (gName 1) (tYes) (tCall (spD R_is_cell) [] E0 (tCons (tVar 1) (tCons (tC (.int 1000000000000)) (tNil)))) [1]) (tNil)))))) (tNever) (tNext)) (tRet (tVar 0))
theorem len_let_by : ∀ xs z, R_let_by xs z → xs.length = 1 := by
  rintro xs z ⟨_, rfl, _⟩
  rfl
theorem run_let_by : ∀ xs z, R_let_by xs z → RunS (t_let_by K P w) (xs.map some ++ List.replicate (2 - xs.length) none) (.rt z) := by
  rintro xs z ⟨s, rfl, hl, hf, rfl⟩
  refine rs_ifNo (et_to (b := false) ?_ (et_or (et_test (es_op (es_cb (ea_cons (es_op (es_im rfl) es_int (s_ixT rfl)) ea_nil) (c_lenT (ds := s.1.map cD))) es_int s_gt)) fun _ => et_not (et_B (es_cb (ea_cons (es_mapT (enc := cD) (l := s.1) (h := fun c => .bool ((decide (0 - 1000000000000 ≤ c.1) && decide (c.1 ≤ 1000000000000)) && (decide (0 - 1000000000000 ≤ c.2) && decide (c.2 ≤ 1000000000000)))) (es_op (es_im rfl) es_int (s_ixT rfl))
    (fun c _ => ⟨_, .name 1 _, es_call (ea_cons (es_im rfl) (ea_cons es_int ea_nil)) ⟨c, 1000000000000, rfl, rfl⟩⟩) (by omega)) ea_nil) (c_all (bs := s.1.map fun c => ((decide (0 - 1000000000000 ≤ c.1) && decide (c.1 ≤ 1000000000000)) && (decide (0 - 1000000000000 ≤ c.2) && decide (c.2 ≤ 1000000000000)))) (by rw [List.map_map] <;> rfl)))))) (rs_ret (es_im rfl))
  rw [List.length_map, decide_eq_false (by omega), Bool.false_or, List.all_map]
  have : (s.1.all (id ∘ fun c => ((decide (0 - 1000000000000 ≤ c.1) && decide (c.1 ≤ 1000000000000)) && (decide (0 - 1000000000000 ≤ c.2) && decide (c.2 ≤ 1000000000000))))) = true := by
    rw [List.all_eq_true] at hf ⊢
    intro c hc
    have := hf c hc
    unfold farC at this
    rw [Bool.and_eq_true, decide_eq_true_iff, decide_eq_true_iff] at this
    show (((decide (0 - 1000000000000 ≤ c.1) && decide (c.1 ≤ 1000000000000)) && (decide (0 - 1000000000000 ≤ c.2) && decide (c.2 ≤ 1000000000000)))) = true
    rw [decide_eq_true (by omega), decide_eq_true (by omega), decide_eq_true (by omega), decide_eq_true (by omega)]
    rfl
  rw [this]
  rfl
theorem O_let_by (T : Tx K mg) : Ok P w K mg base CX0 3 d_let_by ["shape"] (spD R_let_by) := by
  obtain ⟨fd, F⟩ := T.fn 65 d_let_by rfl
  exact ok_data (t := t_let_by K P w) F sc_let_by (fun _ _ _ _ _ _ us hl => match us, hl with | [_], _ => rfl) (len_let_by) (by decide) (fun cdv A outer s H E hr => pss_cons (ps_if (PW.pt (pw_or (pt_cmpR op_gt (pe_callB r_len rfl (T.free 63 rfl) boot_len (pa_cons (pe_ix ix_seq (pv 0) (pe_int) (fun _ _ => rfl)) (pa_nil))) (pe_gint rfl (T.int 79 rfl)) (nomark _)) (pw_or1 (pt_not (pt_val (pe_callB (cr_all rfl) rfl (T.free 69 rfl) boot_all (pa_cons (pe_lc (own := [("cell", 1)]) (g := gName 1) (tt := tYes) rfl sc_let_by.nd (pi_tup (pe_ix ix_seq (pv 0) (pe_int) (fun _ _ => rfl))) (blkOk_by (N := ["shape", "cell"]) (sc := defScope s_let_by) (by decide +kernel)) (fun _ _ _ _ _ => pg_name (i := 1) sc_let_by.nd rfl (by first | exact Or.inl rfl | exact Or.inr rfl)) (fun _ _ _ _ _ => pts_nil) (fun _ _ _ _ _ => pe_own (O_is_cell T) (hr.mono (by decide)) rfl (T.glo 1 rfl) pass0 (pa_cons (pv 1) (pa_cons (pe_gint rfl (T.int 78 rfl)) (pa_nil))))) (pa_nil)))))))) (pss_one (ps_never)) (pss_nil)) (pss_one (ps_ret (pv 0)))) (fun xs z h => .rt (run_let_by (P := P) (w := w) (K := K) xs z h))

/-! ### told_steps -/
def cellW (cs : List Cell) : List Str := cs.flatMap fun c => [numT c.1, numT c.2]
theorem cellW_more (cs : List Cell) (c : Cell) : cellW (cs ++ [c]) = cellW cs ++ [numT c.1, numT c.2] := by
  unfold cellW
  rw [List.flatMap_append]
  simp only [List.flatMap_cons, List.flatMap_nil, List.append_nil]
theorem cellW_len (cs : List Cell) : (cellW cs).length = 2 * cs.length := by
  induction cs with
  | nil => rfl
  | cons c cs ih =>
    show (cellW cs).length + 1 + 1 = 2 * (cs.length + 1)
    omega
theorem mem_cellW {cs : List Cell} {x : Str} (h : x ∈ cellW cs) : ∃ c ∈ cs, x = numT c.1 ∨ x = numT c.2 := by
  obtain ⟨c, hc, m⟩ := List.mem_flatMap.mp h
  refine ⟨c, hc, ?_⟩
  rcases List.mem_cons.mp m with z | z
  · exact .inl z
  · exact .inr (List.mem_singleton.mp z)
theorem sum_le {n : Nat} {l : List Str} (h : ∀ x ∈ l, x.length ≤ n) : (l.map (·.length)).sum ≤ n * l.length := by
  induction l with
  | nil => simp
  | cons a l ih =>
    rw [List.map_cons, List.sum_cons, List.length_cons, Nat.mul_succ]
    have := ih fun x hx => h x (List.mem_cons_of_mem _ hx)
    have := h a List.mem_cons_self
    omega
def R_told_steps : List SV → SV → Prop := fun xs z => ∃ (ws : List Str) (cs : List Cell), xs = [.ro (ws.map .str), .im (csD cs)] ∧ ws.length ≤ 10 ∧ (ws.all fun x => decide (x.length ≤ 100)) = true ∧ cs.length ≤ 500 ∧ (∀ c ∈ cs, c.1.natAbs < 10 ^ 14 ∧ c.2.natAbs < 10 ^ 14) ∧ z = .im (.str (Txt.join " " (ws ++ cellW cs)))
theorem sc_told_steps : FnScope ["first", "steps", "words", "row", "column"] ["first", "steps"] (defScope s_told_steps) := ⟨rfl, rfl, rfl, by decide +kernel, rfl, by decide +kernel, by decide +kernel⟩
def t_told_steps (K : PySem.W.Frag) (P : Program) (w : World) : TS := tSeq (tAsg (tCB (xList K) (tCons (tVar 0) (tNil))) (gName 2)) (tSeq (tFor (iTup K (tVar 1)) (gTup K 2 (gCons (gName 3) (gCons (gName 4) (gNil)))) (tDrop (tBM K "list" (rExtend) (tVar 2) (tCons (tLst (tCons (tCB (xStr) (tCons (tVar 3) (tNil))) (tCons (tCB (xStr) (tCons (tVar 4) (tNil))) (tNil)))) (tNil))))) (tRet (tM1 (xJoin K) (tC (.str " ")) (tVar 2))))
theorem len_told_steps : ∀ xs z, R_told_steps xs z → xs.length = 2 := by
  rintro xs z ⟨_, _, rfl, _⟩
  rfl
theorem run_told_steps : ∀ xs z, R_told_steps xs z → RunS (t_told_steps K P w) (xs.map some ++ List.replicate (5 - xs.length) none) (.rt z) := by
  rintro xs z ⟨ws, cs, rfl, hw, hl, hc, hb, rfl⟩
  have lo : ∀ {i : Int}, i.natAbs < 10 ^ 14 → i.natAbs.log2 < 1920 := fun {i} h => by
    by_cases z : i.natAbs = 0
    · rw [z]; decide
    · exact Nat.lt_trans ((Nat.log2_lt z).2 (Nat.lt_trans h (by decide : 10 ^ 14 < 2 ^ 64))) (by decide)
  refine rs_seq (rs_asg (es_cb (ea_cons (es_var (x := .ro (ws.map .str)) rfl rfl) ea_nil) (c_list rfl))) (rs_at (ρ2 := [some (.ro (ws.map .str)), some (.im (csD cs)), some (.own ((ws ++ cellW []).map .str)), none, none]) (by rw [show ws ++ cellW [] = ws from List.append_nil ws] <;> rfl) (rs_seq (rs_forT (ds := cs.map cD) (es_im rfl) (for_enc (enc := cD) (l := cs) (f := fun p => [some (.ro (ws.map .str)), some (.im (csD cs)), some (.own ((ws ++ cellW p).map .str)), none, none])
    fun p a r e => turn_pair (d1 := .int a.1) (d2 := .int a.2) (rs_clr (ρ1 := [some (.ro (ws.map .str)), some (.im (csD cs)), some (.own ((ws ++ cellW (p ++ [a])).map .str)), none, some (.im (.int a.2))]) 4 (rs_clr (ρ1 := [some (.ro (ws.map .str)), some (.im (csD cs)), some (.own ((ws ++ cellW (p ++ [a])).map .str)), some (.im (.int a.1)), some (.im (.int a.2))]) 3 (rs_nx ?_ (rs_extend (x := .own [.str (numT a.1), .str (numT a.2)]) (es := [.str (numT a.1), .str (numT a.2)]) rfl (es_lst (ds := [.str (numT a.1), .str (numT a.2)]) (ea_cons (es_cb (ea_cons (es_im rfl) ea_nil) (c_str ?_)) (ea_cons (es_cb (ea_cons (es_im rfl) ea_nil) (c_str ?_)) ea_nil))) rfl ?_)))))) (rs_ret (s_join (ys := ws ++ cellW cs) es_str (es_var (x := .own ((ws ++ cellW cs).map .str)) rfl rfl) rfl ?_))))
  · have z : (ws ++ cellW (p ++ [a])).map PyData.str = (ws ++ cellW p).map PyData.str ++ [PyData.str (numT a.1), PyData.str (numT a.2)] := by
      rw [cellW_more, ← List.append_assoc]
      exact List.map_append
    rw [z]
    rfl
  · exact lo (hb a (by rw [e]; simp)).1
  · exact lo (hb a (by rw [e]; simp)).2
  · rw [List.length_map, List.length_append, cellW_len]
    have : p.length < cs.length := by rw [e, List.length_append, List.length_cons]; omega
    show _ + 2 < _
    omega
  · have h1 : (ws ++ cellW cs).length ≤ 1010 := by rw [List.length_append, cellW_len]; omega
    have h2 := sum_le (n := 100) (l := ws ++ cellW cs) fun x hx => by
      rcases List.mem_append.mp hx with m | m
      · exact of_decide_eq_true ((List.all_eq_true.mp hl) x m)
      · obtain ⟨c, mc, e⟩ := mem_cellW m
        rcases e with e | e
        · rw [e]; exact Nat.le_trans (num_len (k := 14) (by decide) (hb c mc).1) (by decide)
        · rw [e]; exact Nat.le_trans (num_len (k := 14) (by decide) (hb c mc).2) (by decide)
    have h3 : (Str.ofString " ").length = 1 := rfl
    rw [h3]
    have := Nat.mul_le_mul_left 100 h1
    omega
theorem O_told_steps (T : Tx K mg) : Ok P w K mg base CX0 1 d_told_steps ["first", "steps"] (spD R_told_steps) := by
  obtain ⟨fd, F⟩ := T.fn 66 d_told_steps rfl
  exact ok_data (t := t_told_steps K P w) F sc_told_steps (fun _ _ _ _ _ _ us hl => match us, hl with | [_, _], _ => rfl) (len_told_steps) (by decide) (fun cdv A outer s H E hr => pss_cons (ps_set (i := 2) sc_told_steps.nd rfl (by first | exact Or.inl rfl | exact Or.inr rfl) (pe_callTy r_list rfl (T.free 68 rfl) boot_list (pa_cons (pv 0) (pa_nil)))) (pss_cons (ps_for PassesOwn.never rfl (pi_tup (pv 1)) (pg_tup rfl (pgs_cons (pg_name (i := 3) sc_told_steps.nd rfl (by first | exact Or.inl rfl | exact Or.inr rfl)) (pgs_cons (pg_name (i := 4) sc_told_steps.nd rfl (by first | exact Or.inl rfl | exact Or.inr rfl)) (pgs_nil)))) (pss_one (ps_expr (pe_bm PySem.F.plainAttrs_list PySem.F.slot_list_extend PySem.F.type_list_extend mt_extend (pv 2) (pa_cons (pe_lst (pa_cons (pe_callTy r_str rfl (T.free 74 rfl) boot_str (pa_cons (pv 3) (pa_nil))) (pa_cons (pe_callTy r_str rfl (T.free 74 rfl) boot_str (pa_cons (pv 4) (pa_nil))) (pa_nil)))) (pa_nil)))))) (pss_one (ps_ret (r_join (pe_str) (pv 2)))))) (fun xs z h => .rt (run_told_steps (P := P) (w := w) (K := K) xs z h))

/-! ### told_count -/
def R_told_count : List SV → SV → Prop := fun xs z => ∃ (s : Shp), xs = [.im (shD s)] ∧ s.1.length < 100000 ∧ z = .im (.str (if s.2 = true then "endless" else numT s.1.length))
theorem sc_told_count : FnScope ["shape", "many"] ["shape"] (defScope s_told_count) := ⟨rfl, rfl, rfl, by decide +kernel, rfl, by decide +kernel, by decide +kernel⟩
def t_told_count (K : PySem.W.Frag) (P : Program) (w : World) : TS := tSeq (tAsg (tCall (spD R_counted) [] E0 (tCons (tVar 0) (tNil))) (gName 1)) (tSeq (tIfS (tB (tIsN (tVar 1))) (tRet (tC (.str "endless"))) (tNext)) (tRet (tCB (xStr) (tCons (tVar 1) (tNil)))))
theorem len_told_count : ∀ xs z, R_told_count xs z → xs.length = 1 := by
  rintro xs z ⟨_, rfl, _⟩
  rfl
theorem run_told_count : ∀ xs z, R_told_count xs z → RunS (t_told_count K P w) (xs.map some ++ List.replicate (2 - xs.length) none) (.rt z) := by
  rintro xs z ⟨⟨cs, b⟩, rfl, hl, rfl⟩
  have hl : cs.length < 100000 := hl
  cases b
  · exact rs_seq (rs_asg (es_call (z := .im (.int cs.length)) (ea_cons (es_im rfl) ea_nil) ⟨(cs, false), rfl, rfl⟩)) (rs_ifNo (et_B (es_isN (d := .int cs.length) (es_im rfl))) (rs_ret (es_cb (ea_cons (es_im (d := .int cs.length) rfl) ea_nil) (c_str (by
      show cs.length.log2 < 1920
      by_cases z : cs.length = 0
      · rw [z]; decide
      · exact Nat.lt_trans ((Nat.log2_lt z).2 (Nat.lt_trans hl (by decide : 100000 < 2 ^ 64))) (by decide))))))
  · exact rs_seq (rs_asg (es_call (z := .im .none) (ea_cons (es_im rfl) ea_nil) ⟨(cs, true), rfl, rfl⟩)) (rs_ifRt (et_B (es_isN (d := .none) (es_im rfl))) (rs_ret es_str))
theorem O_told_count (T : Tx K mg) : Ok P w K mg base CX0 2 d_told_count ["shape"] (spD R_told_count) := by
  obtain ⟨fd, F⟩ := T.fn 67 d_told_count rfl
  exact ok_data (t := t_told_count K P w) F sc_told_count (fun _ _ _ _ _ _ us hl => match us, hl with | [_], _ => rfl) (len_told_count) (by decide) (fun cdv A outer s H E hr => pss_cons (ps_set (i := 1) sc_told_count.nd rfl (by first | exact Or.inl rfl | exact Or.inr rfl) (pe_own (O_counted T) (hr.mono (by decide)) rfl (T.glo 11 rfl) pass0 (pa_cons (pv 0) (pa_nil)))) (pss_cons (ps_if (pt_cmp (pc_isN (pv 1))) (pss_one (ps_ret (pe_str))) (pss_nil)) (pss_one (ps_ret (pe_callTy r_str rfl (T.free 74 rfl) boot_str (pa_cons (pv 1) (pa_nil))))))) (fun xs z h => .rt (run_told_count (P := P) (w := w) (K := K) xs z h))

/-! ### ended -/
def R_ended : List SV → SV → Prop := fun xs z => ∃ (ws : List Str) (y : SV), xs = [.ro (ws.map .str), .im (.int ws.length), y] ∧ y.arg = y ∧ y.plain = true ∧ z = y
theorem sc_ended : FnScope ["words", "at", "values"] ["words", "at", "values"] (defScope s_ended) := ⟨rfl, rfl, rfl, by decide +kernel, rfl, by decide +kernel, by decide +kernel⟩
def t_ended (K : PySem.W.Frag) (P : Program) (w : World) : TS := tSeq (tIfS (tTest (tOp (rI0 fun i j => .bl (decide (i < j))) (tVar 1) (tCB (xLen K) (tCons (tVar 0) (tNil))))) (tNever) (tNext)) (tRet (tVar 2))
theorem len_ended : ∀ xs z, R_ended xs z → xs.length = 3 := by
  rintro xs z ⟨_, _, rfl, _⟩
  rfl
theorem run_ended : ∀ xs z, R_ended xs z → RunS (t_ended K P w) (xs.map some ++ List.replicate (3 - xs.length) none) (.rt z) := by
  rintro xs z ⟨ws, y, rfl, ea, hp, rfl⟩
  refine rs_ifNo (et_to (b := false) (by rw [List.length_map]; exact decide_eq_false (by omega)) (et_test (es_op (es_im rfl) (es_cb (ea_cons (es_var (x := .ro (ws.map .str)) rfl rfl) ea_nil) (c_lenL (ds := ws.map .str) rfl)) s_lt))) ?_
  have := rs_ret (es_var (ρ := [some (.ro (ws.map .str)), some (.im (.int ws.length)), some z]) (i := 2) (x := z) rfl hp)
  rw [ea] at this
  exact this
theorem O_ended (T : Tx K mg) : Ok P w K mg base CX0 1 d_ended ["words", "at", "values"] (spD R_ended) := by
  obtain ⟨fd, F⟩ := T.fn 58 d_ended rfl
  exact ok_data (t := t_ended K P w) F sc_ended (fun _ _ _ _ _ _ us hl => match us, hl with | [_, _, _], _ => rfl) (len_ended) (by decide) (fun cdv A outer s H E hr => pss_cons (ps_if (pt_cmpR op_lt (pv 1) (pe_callB r_len rfl (T.free 63 rfl) boot_len (pa_cons (pv 0) (pa_nil))) (nomark _)) (pss_one (ps_never)) (pss_nil)) (pss_one (ps_ret (pv 2)))) (fun xs z h => .rt (run_ended (P := P) (w := w) (K := K) xs z h))

/-! ### number_at -/
def R_number_at : List SV → SV → Prop := fun xs z => ∃ (ws : List Str) (k : Nat) (i lo hi : Int), xs = [.ro (ws.map .str), .im (.int k), .im (.int lo), .im (.int hi)] ∧ ws[k]? = some (numT i) ∧ ws.length < 100000 ∧ i.natAbs < 10 ^ 13 ∧ lo ≤ i ∧ i ≤ hi ∧ z = .im (.int i)
theorem sc_number_at : FnScope ["words", "at", "low", "high", "found"] ["words", "at", "low", "high"] (defScope s_number_at) := ⟨rfl, rfl, rfl, by decide +kernel, rfl, by decide +kernel, by decide +kernel⟩
def t_number_at (K : PySem.W.Frag) (P : Program) (w : World) : TS := tSeq (tIfS (tTest (tOp (rI0 fun i j => .bl (decide (j ≤ i))) (tVar 1) (tCB (xLen K) (tCons (tVar 0) (tNil))))) (tNever) (tNext)) (tSeq (tAsg (tCall (spD R_plain_number) [] E0 (tCons (tOp (rIx K) (tVar 0) (tVar 1)) (tNil))) (gName 4)) (tSeq (tIfS (tOr (tB (tIsN (tVar 4))) (tOr (tTest (tOp (rI0 fun i j => .bl (decide (i < j))) (tVar 4) (tVar 2))) (tTest (tOp (rI0 fun i j => .bl (decide (j < i))) (tVar 4) (tVar 3))))) (tNever) (tNext)) (tRet (tVar 4))))
theorem len_number_at : ∀ xs z, R_number_at xs z → xs.length = 4 := by
  rintro xs z ⟨_, _, _, _, _, rfl, _⟩
  rfl
theorem run_number_at : ∀ xs z, R_number_at xs z → RunS (t_number_at K P w) (xs.map some ++ List.replicate (5 - xs.length) none) (.rt z) := by
  rintro xs z ⟨ws, k, i, lo, hi, rfl, hk, hl, hb, h1, h2, rfl⟩
  have kl : k < ws.length := (List.getElem?_eq_some_iff.mp hk).1
  refine rs_ifNo (et_to (b := false) (by rw [List.length_map]; exact decide_eq_false (by omega)) (et_test (es_op (es_im rfl) (es_cb (ea_cons (es_var (x := .ro (ws.map .str)) rfl rfl) ea_nil) (c_lenL (ds := ws.map .str) rfl)) s_ge)))
    (rs_seq (rs_asg (es_call (z := .im (.int i)) (ea_cons (es_op (z := .im (.str (numT i))) (es_var (x := .ro (ws.map .str)) rfl rfl) (es_im rfl) (s_ixL rfl (atI_nat (j := k) (by rw [List.getElem?_map, hk] <;> rfl)))) ea_nil) ⟨i, rfl, hb, rfl⟩))
    (rs_ifNo (et_to (b := false) ?_ (et_or (et_B (es_isN (d := .int i) (es_im rfl))) fun _ => et_or (et_test (es_op (es_im rfl) (es_im rfl) s_lt)) fun _ => et_test (es_op (es_im rfl) (es_im rfl) s_gt))) (rs_ret (es_im rfl))))
  rw [decide_eq_false (by omega), decide_eq_false (by omega)]
  rfl
theorem O_number_at (T : Tx K mg) : Ok P w K mg base CX0 2 d_number_at ["words", "at", "low", "high"] (spD R_number_at) := by
  obtain ⟨fd, F⟩ := T.fn 56 d_number_at rfl
  exact ok_data (t := t_number_at K P w) F sc_number_at (fun _ _ _ _ _ _ us hl => match us, hl with | [_, _, _, _], _ => rfl) (len_number_at) (by decide) (fun cdv A outer s H E hr => pss_cons (ps_if (pt_cmpR op_ge (pv 1) (pe_callB r_len rfl (T.free 63 rfl) boot_len (pa_cons (pv 0) (pa_nil))) (nomark _)) (pss_one (ps_never)) (pss_nil)) (pss_cons (ps_set (i := 4) sc_number_at.nd rfl (by first | exact Or.inl rfl | exact Or.inr rfl) (pe_own (O_plain_number T) (hr.mono (by decide)) rfl (T.glo 31 rfl) pass0 (pa_cons (pe_ix ix_seq (pv 0) (pv 1) (fun _ _ => rfl)) (pa_nil)))) (pss_cons (ps_if (PW.pt (pw_or (pt_cmp (pc_isN (pv 4))) (pw_or (pt_cmpR op_lt (pv 4) (pv 2) (nomark _)) (pw_or1 (pt_cmpR op_gt (pv 4) (pv 3) (nomark _)))))) (pss_one (ps_never)) (pss_nil)) (pss_one (ps_ret (pv 4)))))) (fun xs z h => .rt (run_number_at (P := P) (w := w) (K := K) xs z h))

/-! ### cell_at -/
def R_cell_at : List SV → SV → Prop := fun xs z => ∃ (ws : List Str) (k : Nat) (c : Cell), xs = [.ro (ws.map .str), .im (.int k)] ∧ ws[k]? = some (numT c.1) ∧ ws[k + 1]? = some (numT c.2) ∧ ws.length < 100000 ∧ farC c = true ∧ z = .im (cD c)
theorem sc_cell_at : FnScope ["words", "at", "row"] ["words", "at"] (defScope s_cell_at) := ⟨rfl, rfl, rfl, by decide +kernel, rfl, by decide +kernel, by decide +kernel⟩
def t_cell_at (K : PySem.W.Frag) (P : Program) (w : World) : TS := tSeq (tAsg (tCall (spD R_number_at) [] E0 (tCons (tVar 0) (tCons (tVar 1) (tCons (tOp (rI0 fun i j => .int (i - j)) (tC (.int 0)) (tC (.int 1000000000000))) (tCons (tC (.int 1000000000000)) (tNil)))))) (gName 2)) (tRet (tTup (tCons (tVar 2) (tCons (tCall (spD R_number_at) [] E0 (tCons (tVar 0) (tCons (tOp (xAdd K) (tVar 1) (tC (.int 1))) (tCons (tOp (rI0 fun i j => .int (i - j)) (tC (.int 0)) (tC (.int 1000000000000))) (tCons (tC (.int 1000000000000)) (tNil)))))) (tNil)))))
theorem len_cell_at : ∀ xs z, R_cell_at xs z → xs.length = 2 := by
  rintro xs z ⟨_, _, _, rfl, _⟩
  rfl
theorem run_cell_at : ∀ xs z, R_cell_at xs z → RunS (t_cell_at K P w) (xs.map some ++ List.replicate (3 - xs.length) none) (.rt z) := by
  rintro xs z ⟨ws, k, c, rfl, h1, h2, hl, hf, rfl⟩
  unfold farC at hf
  rw [Bool.and_eq_true, decide_eq_true_iff, decide_eq_true_iff] at hf
  exact rs_seq (rs_asg (es_call (z := .im (.int c.1)) (ea_cons (es_var (x := .ro (ws.map .str)) rfl rfl) (ea_cons (es_im rfl) (ea_cons (es_op es_int es_int s_sub) (ea_cons es_int ea_nil)))) ⟨ws, k, c.1, 0 - 1000000000000, 1000000000000, rfl, h1, hl, by omega, by omega, by omega, rfl⟩))
    (rs_ret (es_tup (ds := [.int c.1, .int c.2]) (ea_cons (es_im rfl) (ea_cons (es_call (z := .im (.int c.2)) (ea_cons (es_var (x := .ro (ws.map .str)) rfl rfl) (ea_cons (es_op (z := .im (.int ((k + 1 : Nat) : Int))) (es_im rfl) es_int s_add) (ea_cons (es_op es_int es_int s_sub) (ea_cons es_int ea_nil)))) ⟨ws, k + 1, c.2, 0 - 1000000000000, 1000000000000, rfl, h2, hl, by omega, by omega, by omega, rfl⟩) ea_nil))))
theorem O_cell_at (T : Tx K mg) : Ok P w K mg base CX0 3 d_cell_at ["words", "at"] (spD R_cell_at) := by
  obtain ⟨fd, F⟩ := T.fn 57 d_cell_at rfl
  exact ok_data (t := t_cell_at K P w) F sc_cell_at (fun _ _ _ _ _ _ us hl => match us, hl with | [_, _], _ => rfl) (len_cell_at) (by decide) (fun cdv A outer s H E hr => pss_cons (ps_set (i := 2) sc_cell_at.nd rfl (by first | exact Or.inl rfl | exact Or.inr rfl) (pe_own (O_number_at T) (hr.mono (by decide)) rfl (T.glo 32 rfl) pass0 (pa_cons (pv 0) (pa_cons (pv 1) (pa_cons (pe_op op_sub (pe_int) (pe_gint rfl (T.int 78 rfl))) (pa_cons (pe_gint rfl (T.int 78 rfl)) (pa_nil))))))) (pss_one (ps_ret (pe_tup (pa_cons (pv 2) (pa_cons (pe_own (O_number_at T) (hr.mono (by decide)) rfl (T.glo 32 rfl) pass0 (pa_cons (pv 0) (pa_cons (pe_op o_add (pv 1) (pe_int)) (pa_cons (pe_op op_sub (pe_int) (pe_gint rfl (T.int 78 rfl))) (pa_cons (pe_gint rfl (T.int 78 rfl)) (pa_nil)))))) (pa_nil))))))) (fun xs z h => .rt (run_cell_at (P := P) (w := w) (K := K) xs z h))

/-! ### shown -/
def R_shown : List SV → SV → Prop := fun xs z => ∃ (w0 : Str) (c : Cell), xs = [.ro ([w0, numT c.1, numT c.2, numT 1, numT 1].map .str)] ∧ farC c = true ∧ z = .ro [.int c.1, .int c.2, .int 1, .int 1]
theorem sc_shown : FnScope ["words", "top", "left", "lines"] ["words"] (defScope s_shown) := ⟨rfl, rfl, rfl, by decide +kernel, rfl, by decide +kernel, by decide +kernel⟩
def t_shown (K : PySem.W.Frag) (P : Program) (w : World) : TS := tSeq (tAsg (tCall (spD R_cell_at) [] E0 (tCons (tVar 0) (tCons (tC (.int 1)) (tNil)))) (gTup K 2 (gCons (gName 1) (gCons (gName 2) (gNil))))) (tSeq (tAsg (tCall (spD R_number_at) [] E0 (tCons (tVar 0) (tCons (tC (.int 3)) (tCons (tC (.int 1)) (tCons (tC (.int 40)) (tNil)))))) (gName 3)) (tRet (tCall (spD R_ended) [] E0 (tCons (tVar 0) (tCons (tC (.int 5)) (tCons (tLst (tCons (tVar 1) (tCons (tVar 2) (tCons (tVar 3) (tCons (tCall (spD R_number_at) [] E0 (tCons (tVar 0) (tCons (tC (.int 4)) (tCons (tC (.int 1)) (tCons (tC (.int 40)) (tNil)))))) (tNil)))))) (tNil)))))))
theorem len_shown : ∀ xs z, R_shown xs z → xs.length = 1 := by
  rintro xs z ⟨_, _, rfl, _⟩
  rfl
theorem run_shown : ∀ xs z, R_shown xs z → RunS (t_shown K P w) (xs.map some ++ List.replicate (4 - xs.length) none) (.rt z) := by
  rintro xs z ⟨w0, c, rfl, hf, rfl⟩
  exact rs_seq (rs_asg2 (d1 := .int c.1) (d2 := .int c.2) (es_call (z := .im (cD c)) (ea_cons (es_var (x := .ro ([w0, numT c.1, numT c.2, numT 1, numT 1].map .str)) rfl rfl) (ea_cons es_int ea_nil)) ⟨[w0, numT c.1, numT c.2, numT 1, numT 1], 1, c, rfl, rfl, rfl, by show 5 < 100000; decide, hf, rfl⟩))
    (rs_seq (rs_asg (es_call (z := .im (.int 1)) (ea_cons (es_var (x := .ro ([w0, numT c.1, numT c.2, numT 1, numT 1].map .str)) rfl rfl) (ea_cons es_int (ea_cons es_int (ea_cons es_int ea_nil)))) ⟨[w0, numT c.1, numT c.2, numT 1, numT 1], 3, 1, 1, 40, rfl, rfl, by show 5 < 100000; decide, by decide, by decide, by decide, rfl⟩))
    (rs_ret (es_call (z := .ro [.int c.1, .int c.2, .int 1, .int 1]) (ea_cons (es_var (x := .ro ([w0, numT c.1, numT c.2, numT 1, numT 1].map .str)) rfl rfl) (ea_cons es_int (ea_cons (es_lst (ds := [.int c.1, .int c.2, .int 1, .int 1]) (ea_cons (es_im rfl) (ea_cons (es_im rfl) (ea_cons (es_im rfl) (ea_cons
      (es_call (z := .im (.int 1)) (ea_cons (es_var (x := .ro ([w0, numT c.1, numT c.2, numT 1, numT 1].map .str)) rfl rfl) (ea_cons es_int (ea_cons es_int (ea_cons es_int ea_nil)))) ⟨[w0, numT c.1, numT c.2, numT 1, numT 1], 4, 1, 1, 40, rfl, rfl, by show 5 < 100000; decide, by decide, by decide, by decide, rfl⟩) ea_nil))))) ea_nil)))
      ⟨[w0, numT c.1, numT c.2, numT 1, numT 1], .ro [.int c.1, .int c.2, .int 1, .int 1], rfl, rfl, rfl, rfl⟩)))
theorem O_shown (T : Tx K mg) : Ok P w K mg base CX0 4 d_shown ["words"] (spD R_shown) := by
  obtain ⟨fd, F⟩ := T.fn 59 d_shown rfl
  exact ok_data (t := t_shown K P w) F sc_shown (fun _ _ _ _ _ _ us hl => match us, hl with | [_], _ => rfl) (len_shown) (by decide) (fun cdv A outer s H E hr => pss_cons (ps_asg (pe_own (O_cell_at T) (hr.mono (by decide)) rfl (T.glo 33 rfl) pass0 (pa_cons (pv 0) (pa_cons (pe_int) (pa_nil)))) (pg_tup rfl (pgs_cons (pg_name (i := 1) sc_shown.nd rfl (by first | exact Or.inl rfl | exact Or.inr rfl)) (pgs_cons (pg_name (i := 2) sc_shown.nd rfl (by first | exact Or.inl rfl | exact Or.inr rfl)) (pgs_nil))))) (pss_cons (ps_set (i := 3) sc_shown.nd rfl (by first | exact Or.inl rfl | exact Or.inr rfl) (pe_own (O_number_at T) (hr.mono (by decide)) rfl (T.glo 32 rfl) pass0 (pa_cons (pv 0) (pa_cons (pe_int) (pa_cons (pe_int) (pa_cons (pe_gint rfl (T.int 89 rfl)) (pa_nil))))))) (pss_one (ps_ret (pe_own (O_ended T) (hr.mono (by decide)) rfl (T.glo 34 rfl) pass0 (pa_cons (pv 0) (pa_cons (pe_int) (pa_cons (pe_lst (pa_cons (pv 1) (pa_cons (pv 2) (pa_cons (pv 3) (pa_cons (pe_own (O_number_at T) (hr.mono (by decide)) rfl (T.glo 32 rfl) pass0 (pa_cons (pv 0) (pa_cons (pe_int) (pa_cons (pe_int) (pa_cons (pe_gint rfl (T.int 89 rfl)) (pa_nil)))))) (pa_nil)))))) (pa_nil))))))))) (fun xs z h => .rt (run_shown (P := P) (w := w) (K := K) xs z h))
end K91
/-! ==== K6 -/
set_option maxRecDepth 100000
set_option maxHeartbeats 4000000
namespace K91
open PySem PySem.Spec PyProof.Rows L2 SG DL
variable {P : Program} {w : World} {K : PySem.W.Frag} {mg : Str → Option Value} {base : Heap}
theorem rs_fg {t : TS} {ρ ρ1 ρ2 : Rho} (is : List Nat) (h : RunS t ρ (.nx ρ1)) (e : is.foldl (fun r i => r.set i none) ρ1 = ρ2 := by rfl) : RunS t ρ (.nx ρ2) := by
  subst e
  induction is generalizing ρ1 with
  | nil => exact h
  | cons i is ih => exact ih (rs_clear i h)
theorem cdivp {i j : Int} (h0 : 0 < j) (h1 : j ≤ 2000000001) : CDivP i j := by
  refine ⟨h0, PyProof.noPylong_of_log2 ?_⟩
  have z : j.natAbs ≠ 0 := by omega
  exact Nat.lt_trans ((Nat.log2_lt z).2 (Nat.lt_trans (show j.natAbs < 2000000002 by omega) (by decide : 2000000002 < 2 ^ 31))) (by decide)
theorem cdivw {i j : Int} (h0 : 0 < j) (h1 : j ≤ 2000000001) : CDivW i j := by
  refine ⟨h0, ?_⟩
  have z : j.natAbs ≠ 0 := by omega
  exact Nat.lt_trans ((Nat.log2_lt z).2 (Nat.lt_trans (show j.natAbs < 2000000002 by omega) (by decide : 2000000002 < 2 ^ 31))) (by decide)
theorem es_divmod {te : TE} {ρ : Rho} {i j : Int} {tb : TE} (h : EvS te ρ (.im (.int i))) (hb : EvS tb ρ (.im (.int j))) (h0 : 0 < j) (h1 : j ≤ 2000000001) : EvS (tCB xDivmod (tCons te (tCons tb tNil))) ρ (.im (.tuple [.int (i / j), .int (i % j)])) := es_cb (ea_cons h (ea_cons hb ea_nil)) (c_divmod (cdivp h0 h1))
theorem int_eqv (a b : Int) : PyData.eqv (.int a) (.int b) = decide (a = b) := by simp only [PyData.eqv]; rw [Bool.eq_iff_iff, beq_iff_eq, decide_eq_true_iff]

/-! ### _law_deal -/
def dealI (c : Int) (p : List Nat) : Int × Int := p.foldl (fun (s : Int × Int) (k : Nat) => let one := (s.1 * 48271 + (0 + (k : Int)) + 1) % 2147483647; let two := one * one % 2147483629; (one, s.2 * 999983 + (two / 1021 + two) % 999983)) ((c % 2147483647 + 977) * 69621 % 2147483647, 0)
theorem dealI_more (c : Int) (p : List Nat) (k : Nat) : dealI c (p ++ [k]) = (let one := ((dealI c p).1 * 48271 + (0 + (k : Int)) + 1) % 2147483647; let two := one * one % 2147483629; (one, (dealI c p).2 * 999983 + (two / 1021 + two) % 999983)) := by
  unfold dealI
  rw [List.foldl_append] <;> rfl
def dealF (c : Int) (m : Nat) : Int := if 1000000000000000000 ≤ c then c - 1000000000000000000 else (dealI c (List.range m)).2
theorem emod_b (i : Int) {j : Int} (h0 : 0 < j) (h1 : j < 2 ^ 64) : -2 ^ 64 < i % j ∧ i % j < 2 ^ 64 := by
  have a := Int.emod_nonneg i (Int.ne_of_gt h0)
  have b := Int.emod_lt_of_pos i h0
  constructor
  · exact Int.lt_of_lt_of_le (by decide) a
  · exact Int.lt_trans b h1
def R_law_deal : List SV → SV → Prop := fun xs z => ∃ (c : Int) (m : Nat), xs = [.im (.int c), .im (.int m)] ∧ m < 1000 ∧ z = .im (.int (dealF c m))
theorem sc_law_deal : FnScope ["cell", "many", "number", "one", "k", "two"] ["cell", "many"] (defScope s_law_deal) := ⟨rfl, rfl, rfl, by decide +kernel, rfl, by decide +kernel, by decide +kernel⟩
def t_law_deal (K : PySem.W.Frag) (P : Program) (w : World) : TS := tSeq (tIfS (tTest (tOp (rI0 fun i j => .bl (decide (j ≤ i))) (tVar 0) (tOp (rI CPow fun i j => .int (i ^ j.toNat)) (tC (.int 10)) (tC (.int 18))))) (tRet (tOp (rI0 fun i j => .int (i - j)) (tVar 0) (tOp (rI CPow fun i j => .int (i ^ j.toNat)) (tC (.int 10)) (tC (.int 18))))) (tNext)) (tSeq (tAsg (tC (.int 0)) (gName 2)) (tSeq (tAsg (tOp (rI (fun _ j => 0 < j) fun i j => .int (i % j)) (tOp (rI CMul fun i j => .int (i * j)) (tOp (xAdd K) (tOp (rI (fun _ j => 0 < j) fun i j => .int (i % j)) (tVar 0) (tC (.int 2147483647))) (tC (.int 977))) (tC (.int 69621))) (tC (.int 2147483647))) (gName 3)) (tSeq (tFor (iRng1 (tCons (tVar 1) (tNil))) (gName 4) (tSeq (tAsg (tOp (rI (fun _ j => 0 < j) fun i j => .int (i % j)) (tOp (xAdd K) (tOp (xAdd K) (tOp (rI CMul fun i j => .int (i * j)) (tVar 3) (tC (.int 48271))) (tVar 4)) (tC (.int 1))) (tC (.int 2147483647))) (gName 3)) (tSeq (tAsg (tOp (rI (fun _ j => 0 < j) fun i j => .int (i % j)) (tOp (rI CMul fun i j => .int (i * j)) (tVar 3) (tVar 3)) (tC (.int 2147483629))) (gName 5)) (tAsg (tOp (xAdd K) (tOp (rI CMul fun i j => .int (i * j)) (tVar 2) (tC (.int 999983))) (tOp (rI (fun _ j => 0 < j) fun i j => .int (i % j)) (tOp (xAdd K) (tOp (rI CDivW fun i j => .int (i / j)) (tVar 5) (tC (.int 1021))) (tVar 5)) (tC (.int 999983)))) (gName 2))))) (tRet (tVar 2)))))
theorem len_law_deal : ∀ xs z, R_law_deal xs z → xs.length = 2 := by
  rintro xs z ⟨_, _, rfl, _⟩
  rfl
theorem run_law_deal : ∀ xs z, R_law_deal xs z → RunS (t_law_deal K P w) (xs.map some ++ List.replicate (6 - xs.length) none) (.rt z) := by
  rintro xs z ⟨c, m, rfl, hm, rfl⟩
  have hp : EvS (tOp (rI CPow fun i j => .int (i ^ j.toNat)) (tC (.int 10)) (tC (.int 18))) [some (.im (.int c)), some (.im (.int m)), none, none, none, none] (.im (.int 1000000000000000000)) := es_op es_int es_int (s_pow ⟨by decide, by decide, by decide⟩)
  by_cases h : 1000000000000000000 ≤ c
  · refine rs_to ?_ (rs_ifRt (et_to (decide_eq_true h) (et_test (es_op (es_im rfl) hp s_ge))) (rs_ret (es_op (es_im rfl) hp s_sub)))
    unfold dealF
    rw [if_pos h]
  · refine rs_ifNo (et_to (decide_eq_false h) (et_test (es_op (es_im rfl) hp s_ge))) (rs_seq (rs_asg es_int) (rs_seq (rs_asg (es_op (es_op (es_op (es_op (es_im rfl) es_int (s_mod (by decide))) es_int s_add) es_int (s_mul (.inr ⟨by decide, by decide⟩))) es_int (s_mod (by decide))))
      (rs_seq (rs_forR1 (n := m) (ea_cons (es_im rfl) ea_nil) (by omega) (by omega) (for_enc (enc := fun k : Nat => .int (0 + (k : Int))) (l := List.range m) (f := fun p => [some (.im (.int c)), some (.im (.int m)), some (.im (.int (dealI c p).2)), some (.im (.int (dealI c p).1)), none, none])
        fun p a r e => turn_name (rs_fg [4, 5] (rs_seq (rs_asg (es_op (es_op (es_op (es_op (es_im rfl) es_int (s_mul (.inr ⟨by decide, by decide⟩))) (es_im rfl) s_add) es_int s_add) es_int (s_mod (by decide))))
          (rs_seq (rs_asg (es_op (es_op (es_im rfl) (es_im rfl) (s_mul (.inl (emod_b _ (by decide) (by decide))))) es_int (s_mod (by decide))))
          (rs_asg (es_op (es_op (es_im rfl) es_int (s_mul (.inr ⟨by decide, by decide⟩))) (es_op (es_op (es_op (es_im rfl) es_int (s_div (cdivw (by decide) (by decide)))) (es_im rfl) s_add) es_int (s_mod (by decide))) s_add)))) (by rw [dealI_more] <;> rfl))))
      (rs_to ?_ (rs_ret (es_im rfl))))))
    unfold dealF
    rw [if_neg h]
theorem O_law_deal (T : Tx K mg) : Ok P w K mg base CX0 1 d_law_deal ["cell", "many"] (spD R_law_deal) := by
  obtain ⟨fd, F⟩ := T.fn 73 d_law_deal rfl
  exact ok_data (t := t_law_deal K P w) F sc_law_deal (fun _ _ _ _ _ _ us hl => match us, hl with | [_, _], _ => rfl) (len_law_deal) (by decide) (fun cdv A outer s H E hr => pss_cons (ps_if (pt_cmpR op_ge (pv 0) (pe_op op_pow (pe_int) (pe_int)) (nomark _)) (pss_one (ps_ret (pe_op op_sub (pv 0) (pe_op op_pow (pe_int) (pe_int))))) (pss_nil)) (pss_cons (ps_set (i := 2) sc_law_deal.nd rfl (by first | exact Or.inl rfl | exact Or.inr rfl) (pe_int)) (pss_cons (ps_set (i := 3) sc_law_deal.nd rfl (by first | exact Or.inl rfl | exact Or.inr rfl) (pe_op op_mod (pe_op op_mul (pe_op o_add (pe_op op_mod (pv 0) (pe_int)) (pe_int)) (pe_int)) (pe_int))) (pss_cons (ps_for PassesOwn.never rfl (pi_range1 rfl (T.free 71 rfl) (pa_cons (pv 1) (pa_nil))) (pg_name (i := 4) sc_law_deal.nd rfl (by first | exact Or.inl rfl | exact Or.inr rfl)) (pss_cons (ps_set (i := 3) sc_law_deal.nd rfl (by first | exact Or.inl rfl | exact Or.inr rfl) (pe_op op_mod (pe_op o_add (pe_op o_add (pe_op op_mul (pv 3) (pe_int)) (pv 4)) (pe_int)) (pe_int))) (pss_cons (ps_set (i := 5) sc_law_deal.nd rfl (by first | exact Or.inl rfl | exact Or.inr rfl) (pe_op op_mod (pe_op op_mul (pv 3) (pv 3)) (pe_int))) (pss_one (ps_set (i := 2) sc_law_deal.nd rfl (by first | exact Or.inl rfl | exact Or.inr rfl) (pe_op o_add (pe_op op_mul (pv 2) (pe_int)) (pe_op op_mod (pe_op o_add (pe_op op_fdivW (pv 5) (pe_int)) (pv 5)) (pe_int)))))))) (pss_one (ps_ret (pv 2))))))) (fun xs z h => .rt (run_law_deal (P := P) (w := w) (K := K) xs z h))

/-! ### _law_piece -/
def pieceI (n : Int) : Nat → Int × List Cell
  | 0 => (n, [])
  | k + 1 => ((pieceI n k).1 / 3 / 3, (pieceI n k).2 ++ [((pieceI n k).1 % 3 - 1, (pieceI n k).1 / 3 % 3 - 1)])
theorem pieceI_more (n : Int) (k : Nat) : pieceI n (k + 1) = ((pieceI n k).1 / 3 / 3, (pieceI n k).2 ++ [((pieceI n k).1 % 3 - 1, (pieceI n k).1 / 3 % 3 - 1)]) := rfl
theorem pieceI_len (n : Int) : ∀ k : Nat, (pieceI n k).2.length = k
  | 0 => rfl
  | k + 1 => by rw [pieceI_more, List.length_append, pieceI_len n k] <;> rfl
def pieceF (n m : Int) : Int × List Cell := ((pieceI (n / m) (n % m + 1).toNat).1, rise (pieceI (n / m) (n % m + 1).toNat).2)
def R_law_piece : List SV → SV → Prop := fun xs z => ∃ (n m : Int), xs = [.im (.int n), .im (.int m)] ∧ 0 < m ∧ m ≤ 3 ∧ z = .im (.tuple [.int (pieceF n m).1, csD (pieceF n m).2])
theorem sc_law_piece : FnScope ["number", "most", "count", "steps", "k", "row", "column"] ["number", "most"] (defScope s_law_piece) := ⟨rfl, rfl, rfl, by decide +kernel, rfl, by decide +kernel, by decide +kernel⟩
def t_law_piece (K : PySem.W.Frag) (P : Program) (w : World) : TS := tSeq (tAsg (tCB (xDivmod) (tCons (tVar 0) (tCons (tVar 1) (tNil)))) (gTup K 2 (gCons (gName 0) (gCons (gName 2) (gNil))))) (tSeq (tAsg (tLst (tNil)) (gName 3)) (tSeq (tFor (iRng1 (tCons (tOp (xAdd K) (tVar 2) (tC (.int 1))) (tNil))) (gName 4) (tSeq (tAsg (tCB (xDivmod) (tCons (tVar 0) (tCons (tC (.int 3)) (tNil)))) (gTup K 2 (gCons (gName 0) (gCons (gName 5) (gNil))))) (tSeq (tAsg (tCB (xDivmod) (tCons (tVar 0) (tCons (tC (.int 3)) (tNil)))) (gTup K 2 (gCons (gName 0) (gCons (gName 6) (gNil))))) (tDrop (tBM K "list" (rAppend) (tVar 3) (tCons (tTup (tCons (tOp (rI0 fun i j => .int (i - j)) (tVar 5) (tC (.int 1))) (tCons (tOp (rI0 fun i j => .int (i - j)) (tVar 6) (tC (.int 1))) (tNil)))) (tNil))))))) (tRet (tTup (tCons (tVar 0) (tCons (tCB (xTuple K) (tCons (tCB (rSortS K P w) (tCons (tCB (rSet K P w) (tCons (tVar 3) (tNil))) (tNil))) (tNil))) (tNil)))))))
theorem len_law_piece : ∀ xs z, R_law_piece xs z → xs.length = 2 := by
  rintro xs z ⟨_, _, rfl, _⟩
  rfl
theorem run_law_piece : ∀ xs z, R_law_piece xs z → RunS (t_law_piece K P w) (xs.map some ++ List.replicate (7 - xs.length) none) (.rt z) := by
  rintro xs z ⟨n, m, rfl, h0, h1, rfl⟩
  have hc0 := Int.emod_nonneg n (Int.ne_of_gt h0)
  have hc1 := Int.emod_lt_of_pos n h0
  refine rs_seq (rs_asg2 (es_divmod (es_im rfl) (es_im rfl) h0 (by omega))) (rs_seq (rs_asg (es_lst (ds := []) ea_nil)) (rs_seq (rs_forR1 (n := n % m + 1) (ea_cons (es_op (es_im rfl) es_int s_add) ea_nil) (by omega) (by omega) (for_enc (enc := fun k : Nat => .int (0 + (k : Int))) (l := List.range (n % m + 1).toNat)
      (f := fun p => [some (.im (.int (pieceI (n / m) p.length).1)), some (.im (.int m)), some (.im (.int (n % m))), some (.own ((pieceI (n / m) p.length).2.map cD)), none, none, none])
      fun p a r e => turn_name (rs_fg [4, 5, 6] (rs_seq (rs_asg2 (es_divmod (es_im rfl) es_int (by decide) (by decide))) (rs_seq (rs_asg2 (es_divmod (es_im rfl) es_int (by decide) (by decide))) (rs_append (d := cD (((pieceI (n / m) p.length).1 % 3 - 1, (pieceI (n / m) p.length).1 / 3 % 3 - 1) : Cell)) rfl
        (es_tup (ds := [.int ((pieceI (n / m) p.length).1 % 3 - 1), .int ((pieceI (n / m) p.length).1 / 3 % 3 - 1)]) (ea_cons (es_op (es_im rfl) es_int s_sub) (ea_cons (es_op (es_im rfl) es_int s_sub) ea_nil))) ?_))) ?_)))
    (rs_to ?_ (rs_ret (es_tup (ds := [.int (pieceI (n / m) (List.range (n % m + 1).toNat).length).1, csD (rise (pieceI (n / m) (List.range (n % m + 1).toNat).length).2)]) (ea_cons (es_im rfl) (ea_cons (es_cb (ea_cons (es_sortedSet (cs := (pieceI (n / m) (List.range (n % m + 1).toNat).length).2) (es_var (x := .own ((pieceI (n / m) (List.range (n % m + 1).toNat).length).2.map cD)) rfl rfl) (.inl rfl) ?_) ea_nil) (c_tuple rfl)) ea_nil)))))))
  · rw [List.length_map, pieceI_len]
    have : p.length < (List.range (n % m + 1).toNat).length := by rw [e, List.length_append, List.length_cons]; omega
    rw [List.length_range] at this
    omega
  · rw [List.length_append]
    show _ = [some (SV.im (.int (pieceI (n / m) (p.length + 1)).1)), _, _, some (SV.own ((pieceI (n / m) (p.length + 1)).2.map cD)), none, none, none]
    rw [pieceI_more, List.map_append]
    rfl
  · rw [List.length_range]
    rfl
  · rw [pieceI_len, List.length_range]
    omega
theorem O_law_piece (T : Tx K mg) : Ok P w K mg base CX0 1 d_law_piece ["number", "most"] (spD R_law_piece) := by
  obtain ⟨fd, F⟩ := T.fn 74 d_law_piece rfl
  exact ok_data (t := t_law_piece K P w) F sc_law_piece (fun _ _ _ _ _ _ us hl => match us, hl with | [_, _], _ => rfl) (len_law_piece) (by decide) (fun cdv A outer s H E hr => pss_cons (ps_asg (pe_callB r_divmod rfl (T.free 73 rfl) boot_divmod (pa_cons (pv 0) (pa_cons (pv 1) (pa_nil)))) (pg_tup rfl (pgs_cons (pg_name (i := 0) sc_law_piece.nd rfl (by first | exact Or.inl rfl | exact Or.inr rfl)) (pgs_cons (pg_name (i := 2) sc_law_piece.nd rfl (by first | exact Or.inl rfl | exact Or.inr rfl)) (pgs_nil))))) (pss_cons (ps_set (i := 3) sc_law_piece.nd rfl (by first | exact Or.inl rfl | exact Or.inr rfl) (pe_lst (pa_nil))) (pss_cons (ps_for PassesOwn.never rfl (pi_range1 rfl (T.free 71 rfl) (pa_cons (pe_op o_add (pv 2) (pe_int)) (pa_nil))) (pg_name (i := 4) sc_law_piece.nd rfl (by first | exact Or.inl rfl | exact Or.inr rfl)) (pss_cons (ps_asg (pe_callB r_divmod rfl (T.free 73 rfl) boot_divmod (pa_cons (pv 0) (pa_cons (pe_int) (pa_nil)))) (pg_tup rfl (pgs_cons (pg_name (i := 0) sc_law_piece.nd rfl (by first | exact Or.inl rfl | exact Or.inr rfl)) (pgs_cons (pg_name (i := 5) sc_law_piece.nd rfl (by first | exact Or.inl rfl | exact Or.inr rfl)) (pgs_nil))))) (pss_cons (ps_asg (pe_callB r_divmod rfl (T.free 73 rfl) boot_divmod (pa_cons (pv 0) (pa_cons (pe_int) (pa_nil)))) (pg_tup rfl (pgs_cons (pg_name (i := 0) sc_law_piece.nd rfl (by first | exact Or.inl rfl | exact Or.inr rfl)) (pgs_cons (pg_name (i := 6) sc_law_piece.nd rfl (by first | exact Or.inl rfl | exact Or.inr rfl)) (pgs_nil))))) (pss_one (ps_expr (pe_bm PySem.F.plainAttrs_list PySem.F.slot_list_append PySem.F.type_list_append mt_append (pv 3) (pa_cons (pe_tup (pa_cons (pe_op op_sub (pv 5) (pe_int)) (pa_cons (pe_op op_sub (pv 6) (pe_int)) (pa_nil)))) (pa_nil)))))))) (pss_one (ps_ret (pe_tup (pa_cons (pv 0) (pa_cons (pe_callTy r_tuple rfl (T.free 67 rfl) boot_tuple (pa_cons (pe_callB (cr_sortS rfl hr.units) rfl (T.free 66 rfl) boot_sorted (pa_cons (pe_callTy (cr_set rfl hr.units) rfl (T.free 65 rfl) boot_set (pa_cons (pv 3) (pa_nil))) (pa_nil))) (pa_nil))) (pa_nil))))))))) (fun xs z h => .rt (run_law_piece (P := P) (w := w) (K := K) xs z h))

/-! ### _law_near -/
def nearS (w : Int) : Int := ([3, 3, 4, 4, 5, 5, 6, 2000000001] : List Int).getD w.toNat 0
theorem nearS_at {w : Int} (h0 : 0 ≤ w) (h1 : w < 8) : L2.atI ([.int 3, .int 3, .int 4, .int 4, .int 5, .int 5, .int 6, .int 2000000001] : List PyData) w = some (.int (nearS w)) ∧ 0 < nearS w ∧ nearS w ≤ 2000000001 := by
  have : w = 0 ∨ w = 1 ∨ w = 2 ∨ w = 3 ∨ w = 4 ∨ w = 5 ∨ w = 6 ∨ w = 7 := by omega
  rcases this with rfl | rfl | rfl | rfl | rfl | rfl | rfl | rfl <;> exact ⟨rfl, by decide, by decide⟩
def nearF (n : Int) : Int × Cell := (n / 8 / nearS (n % 8) / nearS (n % 8), (n / 8 % nearS (n % 8) - nearS (n % 8) / 2, n / 8 / nearS (n % 8) % nearS (n % 8) - nearS (n % 8) / 2))
def R_law_near : List SV → SV → Prop := fun xs z => ∃ (n : Int), xs = [.im (.int n)] ∧ z = .im (.tuple [.int (nearF n).1, cD (nearF n).2])
theorem sc_law_near : FnScope ["number", "way", "size", "row", "column"] ["number"] (defScope s_law_near) := ⟨rfl, rfl, rfl, by decide +kernel, rfl, by decide +kernel, by decide +kernel⟩
def t_law_near (K : PySem.W.Frag) (P : Program) (w : World) : TS := tSeq (tAsg (tCB (xDivmod) (tCons (tVar 0) (tCons (tC (.int 8)) (tNil)))) (gTup K 2 (gCons (gName 0) (gCons (gName 1) (gNil))))) (tSeq (tAsg (tOp (rIx K) (tLst (tCons (tC (.int 3)) (tCons (tC (.int 3)) (tCons (tC (.int 4)) (tCons (tC (.int 4)) (tCons (tC (.int 5)) (tCons (tC (.int 5)) (tCons (tC (.int 6)) (tCons (tOp (xAdd K) (tOp (rI CMul fun i j => .int (i * j)) (tC (.int 2)) (tOp (rI CPow fun i j => .int (i ^ j.toNat)) (tC (.int 10)) (tC (.int 9)))) (tC (.int 1))) (tNil)))))))))) (tVar 1)) (gName 2)) (tSeq (tAsg (tCB (xDivmod) (tCons (tVar 0) (tCons (tVar 2) (tNil)))) (gTup K 2 (gCons (gName 0) (gCons (gName 3) (gNil))))) (tSeq (tAsg (tCB (xDivmod) (tCons (tVar 0) (tCons (tVar 2) (tNil)))) (gTup K 2 (gCons (gName 0) (gCons (gName 4) (gNil))))) (tRet (tTup (tCons (tVar 0) (tCons (tTup (tCons (tOp (rI0 fun i j => .int (i - j)) (tVar 3) (tOp (rI CDivW fun i j => .int (i / j)) (tVar 2) (tC (.int 2)))) (tCons (tOp (rI0 fun i j => .int (i - j)) (tVar 4) (tOp (rI CDivW fun i j => .int (i / j)) (tVar 2) (tC (.int 2)))) (tNil)))) (tNil))))))))
theorem len_law_near : ∀ xs z, R_law_near xs z → xs.length = 1 := by
  rintro xs z ⟨_, rfl, _⟩
  rfl
theorem run_law_near : ∀ xs z, R_law_near xs z → RunS (t_law_near K P w) (xs.map some ++ List.replicate (5 - xs.length) none) (.rt z) := by
  rintro xs z ⟨n, rfl, rfl⟩
  obtain ⟨hs, s0, s1⟩ := nearS_at (Int.emod_nonneg n (by decide : (8 : Int) ≠ 0)) (Int.emod_lt_of_pos n (by decide : (0 : Int) < 8))
  exact rs_seq (rs_asg2 (es_divmod (es_im rfl) es_int (by decide) (by decide))) (rs_seq (rs_asg (es_op (z := .im (.int (nearS (n % 8)))) (es_lst (ds := [.int 3, .int 3, .int 4, .int 4, .int 5, .int 5, .int 6, .int 2000000001]) (ea_cons es_int (ea_cons es_int (ea_cons es_int (ea_cons es_int (ea_cons es_int (ea_cons es_int (ea_cons es_int (ea_cons
      (es_op (z := .im (.int 2000000001)) (es_op (z := .im (.int 2000000000)) es_int (es_op (z := .im (.int 1000000000)) es_int es_int (s_pow ⟨by decide, by decide, by decide⟩)) (s_mul (.inl ⟨by decide, by decide⟩))) es_int s_add) ea_nil))))))))) (es_im rfl) (s_ixL rfl hs)))
    (rs_seq (rs_asg2 (es_divmod (es_im rfl) (es_im rfl) s0 s1)) (rs_seq (rs_asg2 (es_divmod (es_im rfl) (es_im rfl) s0 s1))
    (rs_ret (es_tup (ds := [.int (nearF n).1, cD (nearF n).2]) (ea_cons (es_im rfl) (ea_cons (es_tup (ds := [.int (nearF n).2.1, .int (nearF n).2.2]) (ea_cons (es_op (es_im rfl) (es_op (es_im rfl) es_int (s_div (cdivw (by decide) (by decide)))) s_sub) (ea_cons (es_op (es_im rfl) (es_op (es_im rfl) es_int (s_div (cdivw (by decide) (by decide)))) s_sub) ea_nil))) ea_nil)))))))
theorem O_law_near (T : Tx K mg) : Ok P w K mg base CX0 1 d_law_near ["number"] (spD R_law_near) := by
  obtain ⟨fd, F⟩ := T.fn 77 d_law_near rfl
  exact ok_data (t := t_law_near K P w) F sc_law_near (fun _ _ _ _ _ _ us hl => match us, hl with | [_], _ => rfl) (len_law_near) (by decide) (fun cdv A outer s H E hr => pss_cons (ps_asg (pe_callB r_divmod rfl (T.free 73 rfl) boot_divmod (pa_cons (pv 0) (pa_cons (pe_int) (pa_nil)))) (pg_tup rfl (pgs_cons (pg_name (i := 0) sc_law_near.nd rfl (by first | exact Or.inl rfl | exact Or.inr rfl)) (pgs_cons (pg_name (i := 1) sc_law_near.nd rfl (by first | exact Or.inl rfl | exact Or.inr rfl)) (pgs_nil))))) (pss_cons (ps_set (i := 2) sc_law_near.nd rfl (by first | exact Or.inl rfl | exact Or.inr rfl) (pe_ix ix_seq (pe_lst (pa_cons (pe_int) (pa_cons (pe_int) (pa_cons (pe_int) (pa_cons (pe_int) (pa_cons (pe_int) (pa_cons (pe_int) (pa_cons (pe_int) (pa_cons (pe_op o_add (pe_op op_mul (pe_int) (pe_op op_pow (pe_int) (pe_int))) (pe_int)) (pa_nil)))))))))) (pv 1) (fun _ _ => rfl))) (pss_cons (ps_asg (pe_callB r_divmod rfl (T.free 73 rfl) boot_divmod (pa_cons (pv 0) (pa_cons (pv 2) (pa_nil)))) (pg_tup rfl (pgs_cons (pg_name (i := 0) sc_law_near.nd rfl (by first | exact Or.inl rfl | exact Or.inr rfl)) (pgs_cons (pg_name (i := 3) sc_law_near.nd rfl (by first | exact Or.inl rfl | exact Or.inr rfl)) (pgs_nil))))) (pss_cons (ps_asg (pe_callB r_divmod rfl (T.free 73 rfl) boot_divmod (pa_cons (pv 0) (pa_cons (pv 2) (pa_nil)))) (pg_tup rfl (pgs_cons (pg_name (i := 0) sc_law_near.nd rfl (by first | exact Or.inl rfl | exact Or.inr rfl)) (pgs_cons (pg_name (i := 4) sc_law_near.nd rfl (by first | exact Or.inl rfl | exact Or.inr rfl)) (pgs_nil))))) (pss_one (ps_ret (pe_tup (pa_cons (pv 0) (pa_cons (pe_tup (pa_cons (pe_op op_sub (pv 3) (pe_op op_fdivW (pv 2) (pe_int))) (pa_cons (pe_op op_sub (pv 4) (pe_op op_fdivW (pv 2) (pe_int))) (pa_nil)))) (pa_nil)))))))))) (fun xs z h => .rt (run_law_near (P := P) (w := w) (K := K) xs z h))

/-! ### _law_turned -/
def R_law_turned : List SV → SV → Prop := fun xs z => ∃ (c : Cell) (t : Int), xs = [.im (cD c), .im (.int t)] ∧ z = .im (cD (turnC c t))
theorem sc_law_turned : FnScope ["cell", "turn", "row", "column", "quarter"] ["cell", "turn"] (defScope s_law_turned) := ⟨rfl, rfl, rfl, by decide +kernel, rfl, by decide +kernel, by decide +kernel⟩
def t_law_turned (K : PySem.W.Frag) (P : Program) (w : World) : TS := tSeq (tAsg (tVar 0) (gTup K 2 (gCons (gName 2) (gCons (gName 3) (gNil))))) (tSeq (tIfS (tTest (tOp (rI0 fun i j => .bl (decide (j < i))) (tVar 1) (tC (.int 3)))) (tAsg (tOp (rI0 fun i j => .int (i - j)) (tC (.int 0)) (tVar 3)) (gName 3)) (tNext)) (tSeq (tFor (iRng1 (tCons (tOp (rI (fun _ j => 0 < j) fun i j => .int (i % j)) (tVar 1) (tC (.int 4))) (tNil))) (gName 4) (tPar 2 3 (tCons (tVar 3) (tCons (tOp (rI0 fun i j => .int (i - j)) (tC (.int 0)) (tVar 2)) (tNil))))) (tRet (tTup (tCons (tVar 2) (tCons (tVar 3) (tNil)))))))
theorem len_law_turned : ∀ xs z, R_law_turned xs z → xs.length = 2 := by
  rintro xs z ⟨_, _, rfl, _⟩
  rfl
theorem run_law_turned : ∀ xs z, R_law_turned xs z → RunS (t_law_turned K P w) (xs.map some ++ List.replicate (5 - xs.length) none) (.rt z) := by
  rintro xs z ⟨c, t, rfl, rfl⟩
  refine rs_seq (rs_asg2 (d1 := .int c.1) (d2 := .int c.2) (es_im rfl)) (rs_seq (ρ1 := [some (.im (cD c)), some (.im (.int t)), some (.im (.int c.1)), some (.im (.int (if 4 ≤ t then 0 - c.2 else c.2))), none])
    (rs_if (et_test (es_op (es_im rfl) es_int s_gt)) (fun h => rs_nx ?_ (rs_asg (es_op es_int (es_im rfl) s_sub))) fun h => rs_nx ?_ rs_next)
    (rs_seq (rs_forR1 (n := t % 4) (ea_cons (es_op (es_im rfl) es_int (s_mod (by decide))) ea_nil) (by omega) (by omega) (for_enc (enc := fun k : Nat => .int (0 + (k : Int)))
        (f := fun p => [some (.im (cD c)), some (.im (.int t)), some (.im (.int (rotN p.length (c.1, if 4 ≤ t then 0 - c.2 else c.2)).1)), some (.im (.int (rotN p.length (c.1, if 4 ≤ t then 0 - c.2 else c.2)).2)), none])
        fun p a r e => turn_name (rs_nx ?_ (rs_clear 4 (rs_par (ea_cons (es_im rfl) (ea_cons (es_op es_int (es_im rfl) s_sub) ea_nil)))))))
      (rs_to ?_ (rs_ret (es_tup (ds := [_, _]) (ea_cons (es_im rfl) (ea_cons (es_im rfl) ea_nil)))))))
  · rw [if_pos (by have := of_decide_eq_true h; omega)] <;> rfl
  · rw [if_neg (by have := of_decide_eq_false h; omega)] <;> rfl
  · rw [List.length_append] <;> rfl
  · rw [List.length_range]
    have e : (c.1, if 4 ≤ t then 0 - c.2 else c.2) = (if 4 ≤ t then ((c.1, 0 - c.2) : Cell) else c) := by split <;> rfl
    rw [e]
    rfl
theorem O_law_turned (T : Tx K mg) : Ok P w K mg base CX0 1 d_law_turned ["cell", "turn"] (spD R_law_turned) := by
  obtain ⟨fd, F⟩ := T.fn 78 d_law_turned rfl
  exact ok_data (t := t_law_turned K P w) F sc_law_turned (fun _ _ _ _ _ _ us hl => match us, hl with | [_, _], _ => rfl) (len_law_turned) (by decide) (fun cdv A outer s H E hr => pss_cons (ps_asg (pv 0) (pg_tup rfl (pgs_cons (pg_name (i := 2) sc_law_turned.nd rfl (by first | exact Or.inl rfl | exact Or.inr rfl)) (pgs_cons (pg_name (i := 3) sc_law_turned.nd rfl (by first | exact Or.inl rfl | exact Or.inr rfl)) (pgs_nil))))) (pss_cons (ps_if (pt_cmpR op_gt (pv 1) (pe_int) (nomark _)) (pss_one (ps_set (i := 3) sc_law_turned.nd rfl (by first | exact Or.inl rfl | exact Or.inr rfl) (pe_op op_sub (pe_int) (pv 3)))) (pss_nil)) (pss_cons (ps_for PassesOwn.never rfl (pi_range1 rfl (T.free 71 rfl) (pa_cons (pe_op op_mod (pv 1) (pe_int)) (pa_nil))) (pg_name (i := 4) sc_law_turned.nd rfl (by first | exact Or.inl rfl | exact Or.inr rfl)) (pss_one (ps_par rfl sc_law_turned.nd rfl rfl (by decide) rfl rfl (pa_cons (pv 3) (pa_cons (pe_op op_sub (pe_int) (pv 2)) (pa_nil))) rfl))) (pss_one (ps_ret (pe_tup (pa_cons (pv 2) (pa_cons (pv 3) (pa_nil))))))))) (fun xs z h => .rt (run_law_turned (P := P) (w := w) (K := K) xs z h))

/-! ### _law_swelled -/
def stC (c : Cell) (sg : Int) (d : Cell) : Cell := (c.1 + sg * d.1, c.2 + sg * d.2)
def swF (cs st : List Cell) (sg : Int) : List Cell := rise (cs.flatMap fun c => st.map fun d => stC c sg d)
def R_law_swelled : List SV → SV → Prop := fun xs z => ∃ (cs st : List Cell) (sg : Int), xs = [.im (csD cs), .im (csD st), .im (.int sg)] ∧ -10 < sg ∧ sg < 10 ∧ cs.length * st.length ≤ 300 ∧ st.length < 1000 ∧ z = .im (csD (swF cs st sg))
theorem sc_law_swelled : FnScope ["cells", "steps", "sign", "found", "row", "column", "step"] ["cells", "steps", "sign"] (defScope s_law_swelled) := ⟨rfl, rfl, rfl, by decide +kernel, rfl, by decide +kernel, by decide +kernel⟩
def t_law_swelled (K : PySem.W.Frag) (P : Program) (w : World) : TS := tSeq (tAsg (tLst (tNil)) (gName 3)) (tSeq (tFor (iTup K (tVar 0)) (gTup K 2 (gCons (gName 4) (gCons (gName 5) (gNil)))) (tDrop (tBM K "list" (rExtend) (tVar 3) (tCons (tLc (iTup K (tVar 1)) (gName 6) (tYes) (tTup (tCons (tOp (xAdd K) (tVar 4) (tOp (rI CMul fun i j => .int (i * j)) (tVar 2) (tOp (rIx K) (tVar 6) (tC (.int 0))))) (tCons (tOp (xAdd K) (tVar 5) (tOp (rI CMul fun i j => .int (i * j)) (tVar 2) (tOp (rIx K) (tVar 6) (tC (.int 1))))) (tNil)))) [6]) (tNil))))) (tRet (tCB (xTuple K) (tCons (tCB (rSortS K P w) (tCons (tCB (rSet K P w) (tCons (tVar 3) (tNil))) (tNil))) (tNil)))))
theorem len_law_swelled : ∀ xs z, R_law_swelled xs z → xs.length = 3 := by
  rintro xs z ⟨_, _, _, rfl, _⟩
  rfl
theorem run_law_swelled : ∀ xs z, R_law_swelled xs z → RunS (t_law_swelled K P w) (xs.map some ++ List.replicate (7 - xs.length) none) (.rt z) := by
  rintro xs z ⟨cs, st, sg, rfl, g0, g1, hl, hp, rfl⟩
  have hs : -2 ^ 64 < sg ∧ sg < 2 ^ 64 := ⟨by omega, by omega⟩
  have fl : ∀ q : List Cell, (q.flatMap fun c => st.map fun d => stC c sg d).length = q.length * st.length := fun q => by
    induction q with
    | nil => simp
    | cons a q ih => rw [List.flatMap_cons, List.length_append, ih, List.length_map, List.length_cons, Nat.succ_mul, Nat.add_comm]
  refine rs_seq (rs_asg (es_lst (ds := []) ea_nil)) (rs_seq (rs_forT (ds := cs.map cD) (es_im rfl) (for_enc (enc := cD) (l := cs) (f := fun q => [some (.im (csD cs)), some (.im (csD st)), some (.im (.int sg)), some (.own ((q.flatMap fun c => st.map fun d => stC c sg d).map cD)), none, none, none])
      fun q a r e => turn_pair (d1 := .int a.1) (d2 := .int a.2) (rs_fg [4, 5] (rs_extend (x := .own (st.map fun d => cD (stC a sg d))) (es := st.map fun d => cD (stC a sg d)) rfl (es_mapT (enc := cD) (l := st) (h := fun d => cD (stC a sg d)) (es_im rfl) (fun d _ => ⟨_, .name 6 _, es_tup (ds := [.int (a.1 + sg * d.1), .int (a.2 + sg * d.2)]) (ea_cons (es_op (es_im rfl) (es_op (es_im rfl) (es_op (es_im rfl) es_int (s_ixT rfl)) (s_mul (.inl hs))) s_add) (ea_cons (es_op (es_im rfl) (es_op (es_im rfl) (es_op (es_im rfl) es_int (s_ixT rfl)) (s_mul (.inl hs))) s_add) ea_nil))⟩) (by omega)) rfl ?_) ?_)))
    (rs_ret (es_cb (ea_cons (es_sortedSet (cs := cs.flatMap fun c => st.map fun d => stC c sg d) (es_var (x := .own ((cs.flatMap fun c => st.map fun d => stC c sg d).map cD)) rfl rfl) (.inl rfl) (by rw [fl]; exact hl)) ea_nil) (c_tuple rfl))))
  · rw [List.length_map, List.length_map, fl]
    have l : q.length + 1 ≤ cs.length := by rw [e, List.length_append, List.length_cons]; omega
    have := Nat.mul_le_mul_right st.length l
    rw [Nat.succ_mul] at this
    omega
  · rw [List.flatMap_append, List.map_append]
    simp only [List.flatMap_cons, List.flatMap_nil, List.append_nil, List.map_map]
    rfl
theorem O_law_swelled (T : Tx K mg) : Ok P w K mg base CX0 1 d_law_swelled ["cells", "steps", "sign"] (spD R_law_swelled) := by
  obtain ⟨fd, F⟩ := T.fn 79 d_law_swelled rfl
  exact ok_data (t := t_law_swelled K P w) F sc_law_swelled (fun _ _ _ _ _ _ us hl => match us, hl with | [_, _, _], _ => rfl) (len_law_swelled) (by decide) (fun cdv A outer s H E hr => pss_cons (ps_set (i := 3) sc_law_swelled.nd rfl (by first | exact Or.inl rfl | exact Or.inr rfl) (pe_lst (pa_nil))) (pss_cons (ps_for PassesOwn.never rfl (pi_tup (pv 0)) (pg_tup rfl (pgs_cons (pg_name (i := 4) sc_law_swelled.nd rfl (by first | exact Or.inl rfl | exact Or.inr rfl)) (pgs_cons (pg_name (i := 5) sc_law_swelled.nd rfl (by first | exact Or.inl rfl | exact Or.inr rfl)) (pgs_nil)))) (pss_one (ps_expr (pe_bm PySem.F.plainAttrs_list PySem.F.slot_list_extend PySem.F.type_list_extend mt_extend (pv 3) (pa_cons (pe_lc (own := [("step", 6)]) (g := gName 6) (tt := tYes) rfl sc_law_swelled.nd (pi_tup (pv 1)) (blkOk_by (N := ["cells", "steps", "sign", "found", "row", "column", "step"]) (sc := defScope s_law_swelled) (by decide +kernel)) (fun _ _ _ _ _ => pg_name (i := 6) sc_law_swelled.nd rfl (by first | exact Or.inl rfl | exact Or.inr rfl)) (fun _ _ _ _ _ => pts_nil) (fun _ _ _ _ _ => pe_tup (pa_cons (pe_op o_add (pv 4) (pe_op op_mul (pv 2) (pe_ix ix_seq (pv 6) (pe_int) (fun _ _ => rfl)))) (pa_cons (pe_op o_add (pv 5) (pe_op op_mul (pv 2) (pe_ix ix_seq (pv 6) (pe_int) (fun _ _ => rfl)))) (pa_nil))))) (pa_nil)))))) (pss_one (ps_ret (pe_callTy r_tuple rfl (T.free 67 rfl) boot_tuple (pa_cons (pe_callB (cr_sortS rfl hr.units) rfl (T.free 66 rfl) boot_sorted (pa_cons (pe_callTy (cr_set rfl hr.units) rfl (T.free 65 rfl) boot_set (pa_cons (pv 3) (pa_nil))) (pa_nil))) (pa_nil))))))) (fun xs z h => .rt (run_law_swelled (P := P) (w := w) (K := K) xs z h))

/-! ### _law_shrunk -/
def spotC (c : Cell) (sg : Int) (d : Cell) : Cell := (c.1 - sg * d.1, c.2 - sg * d.2)
def shQ (cs : List Cell) (s0 : Cell) (st : List Cell) (sg : Int) (q : List Cell) : List Cell := (q.map fun c => spotC c sg s0).filter fun p => st.all fun d => decide (stC p sg d ∈ cs)
theorem shQ_more (cs : List Cell) (s0 : Cell) (st : List Cell) (sg : Int) (q : List Cell) (a : Cell) : shQ cs s0 st sg (q ++ [a]) = shQ cs s0 st sg q ++ (if (st.all fun d => decide (stC (spotC a sg s0) sg d ∈ cs)) = true then [spotC a sg s0] else []) := by
  unfold shQ
  rw [List.map_append, List.filter_append, List.map_cons, List.map_nil]
  congr 1
  rw [List.filter_cons, List.filter_nil]
theorem shQ_len (cs : List Cell) (s0 : Cell) (st : List Cell) (sg : Int) (q : List Cell) : (shQ cs s0 st sg q).length ≤ q.length := by
  unfold shQ
  refine Nat.le_trans (List.length_filter_le _ _) ?_
  rw [List.length_map]
  exact Nat.le_refl _
def shF (cs : List Cell) (s0 : Cell) (st : List Cell) (sg : Int) : List Cell := rise (shQ cs s0 st sg cs)
def R_law_shrunk : List SV → SV → Prop := fun xs z => ∃ (cs : List Cell) (s0 : Cell) (st : List Cell) (sg : Int), xs = [.im (csD cs), .im (csD (s0 :: st)), .im (.int sg)] ∧ -10 < sg ∧ sg < 10 ∧ cs.length ≤ 300 ∧ st.length < 1000 ∧ z = .im (csD (shF cs s0 (s0 :: st) sg))
theorem sc_law_shrunk : FnScope ["cells", "steps", "sign", "found", "row", "column", "spot", "step"] ["cells", "steps", "sign"] (defScope s_law_shrunk) := ⟨rfl, rfl, rfl, by decide +kernel, rfl, by decide +kernel, by decide +kernel⟩
def t_law_shrunk (K : PySem.W.Frag) (P : Program) (w : World) : TS := tSeq (tAsg (tLst (tNil)) (gName 3)) (tSeq (tFor (iTup K (tVar 0)) (gTup K 2 (gCons (gName 4) (gCons (gName 5) (gNil)))) (tSeq (tAsg (tTup (tCons (tOp (rI0 fun i j => .int (i - j)) (tVar 4) (tOp (rI CMul fun i j => .int (i * j)) (tVar 2) (tOp (rIx K) (tOp (rIx K) (tVar 1) (tC (.int 0))) (tC (.int 0))))) (tCons (tOp (rI0 fun i j => .int (i - j)) (tVar 5) (tOp (rI CMul fun i j => .int (i * j)) (tVar 2) (tOp (rIx K) (tOp (rIx K) (tVar 1) (tC (.int 0))) (tC (.int 1))))) (tNil)))) (gName 6)) (tIfS (tB (tCB (rAll K) (tCons (tLc (iTup K (tVar 1)) (gName 7) (tYes) (tOp (xIn K false) (tTup (tCons (tOp (xAdd K) (tOp (rIx K) (tVar 6) (tC (.int 0))) (tOp (rI CMul fun i j => .int (i * j)) (tVar 2) (tOp (rIx K) (tVar 7) (tC (.int 0))))) (tCons (tOp (xAdd K) (tOp (rIx K) (tVar 6) (tC (.int 1))) (tOp (rI CMul fun i j => .int (i * j)) (tVar 2) (tOp (rIx K) (tVar 7) (tC (.int 1))))) (tNil)))) (tVar 0)) [7]) (tNil)))) (tDrop (tBM K "list" (rAppend) (tVar 3) (tCons (tVar 6) (tNil)))) (tNext)))) (tRet (tCB (xTuple K) (tCons (tCB (rSortS K P w) (tCons (tCB (rSet K P w) (tCons (tVar 3) (tNil))) (tNil))) (tNil)))))
theorem len_law_shrunk : ∀ xs z, R_law_shrunk xs z → xs.length = 3 := by
  rintro xs z ⟨_, _, _, _, rfl, _⟩
  rfl
theorem run_law_shrunk : ∀ xs z, R_law_shrunk xs z → RunS (t_law_shrunk K P w) (xs.map some ++ List.replicate (8 - xs.length) none) (.rt z) := by
  rintro xs z ⟨cs, s0, st, sg, rfl, g0, g1, hl, hp, rfl⟩
  have hs : -2 ^ 64 < sg ∧ sg < 2 ^ 64 := ⟨by omega, by omega⟩
  have at0 : L2.atI ((s0 :: st).map cD) 0 = some (cD s0) := atI_nat (j := 0) (xs := (s0 :: st).map cD) rfl
  have D0 : ∀ {ρ : Rho} (h : ρ[1]? = some (some (.im (csD (s0 :: st))))) , EvS (tOp (rIx K) (tVar 1) (tC (.int 0))) ρ (.im (cD s0)) := fun h => es_op (z := .im (cD s0)) (es_im h) es_int (s_ixT at0)
  refine rs_seq (rs_asg (es_lst (ds := []) ea_nil)) (rs_seq (rs_forT (ds := cs.map cD) (es_im rfl) (for_enc (enc := cD) (l := cs) (f := fun q => [some (.im (csD cs)), some (.im (csD (s0 :: st))), some (.im (.int sg)), some (.own ((shQ cs s0 (s0 :: st) sg q).map cD)), none, none, none, none])
      fun q a r e => turn_pair (d1 := .int a.1) (d2 := .int a.2) (rs_fg (ρ1 := [some (.im (csD cs)), some (.im (csD (s0 :: st))), some (.im (.int sg)), some (.own ((shQ cs s0 (s0 :: st) sg (q ++ [a])).map cD)), some (.im (.int a.1)), some (.im (.int a.2)), some (.im (cD (spotC a sg s0))), none]) [4, 5, 6] (rs_seq (rs_asg (es_tup (ds := [.int (a.1 - sg * s0.1), .int (a.2 - sg * s0.2)]) (ea_cons (es_op (es_im rfl) (es_op (es_im rfl) (es_op (D0 rfl) es_int (s_ixT rfl)) (s_mul (.inl hs))) s_sub) (ea_cons (es_op (es_im rfl) (es_op (es_im rfl) (es_op (D0 rfl) es_int (s_ixT rfl)) (s_mul (.inl hs))) s_sub) ea_nil))))
        (rs_if (b := (s0 :: st).all fun d => decide (stC (spotC a sg s0) sg d ∈ cs)) (et_B (es_to ?_ (es_cb (ea_cons (es_mapT (enc := cD) (l := s0 :: st) (h := fun d => .bool (decide (stC (spotC a sg s0) sg d ∈ cs))) (es_im rfl) (fun d _ => ⟨_, .name 7 _, es_to (congrArg (fun b => SV.im (.bool b)) (any_cell cs (stC (spotC a sg s0) sg d))) (es_op (es_tup (ds := [.int ((spotC a sg s0).1 + sg * d.1), .int ((spotC a sg s0).2 + sg * d.2)]) (ea_cons (es_op (es_op (z := .im (.int (spotC a sg s0).1)) (es_im rfl) es_int (s_ixT rfl)) (es_op (es_im rfl) (es_op (es_im rfl) es_int (s_ixT rfl)) (s_mul (.inl hs))) s_add) (ea_cons (es_op (es_op (z := .im (.int (spotC a sg s0).2)) (es_im rfl) es_int (s_ixT rfl)) (es_op (es_im rfl) (es_op (es_im rfl) es_int (s_ixT rfl)) (s_mul (.inl hs))) s_add) ea_nil))) (es_im rfl) (s_in (cD_shaped (stC (spotC a sg s0) sg d)) (csD_shaped cs)))⟩) (by rw [List.length_cons]; omega)) ea_nil)
          (c_all (bs := (s0 :: st).map fun d => decide (stC (spotC a sg s0) sg d ∈ cs)) (by rw [List.map_map] <;> rfl)))))
          (fun h => rs_nx ?_ (rs_append (d := cD (spotC a sg s0)) rfl (es_im rfl) ?_)) (fun h => rs_nx ?_ rs_next))))))
    (rs_ret (es_cb (ea_cons (es_sortedSet (cs := shQ cs s0 (s0 :: st) sg cs) (es_var (x := .own ((shQ cs s0 (s0 :: st) sg cs).map cD)) rfl rfl) (.inl rfl) (Nat.le_trans (shQ_len cs s0 _ sg cs) hl)) ea_nil) (c_tuple rfl))))
  · rw [List.all_map]
    rfl
  · rw [shQ_more, h, if_pos rfl, List.map_append]
    rfl
  · rw [List.length_map]
    have : q.length < cs.length := by rw [e, List.length_append, List.length_cons]; omega
    have := shQ_len cs s0 (s0 :: st) sg q
    omega
  · rw [shQ_more, h, if_neg Bool.false_ne_true, List.append_nil]
    rfl
theorem O_law_shrunk (T : Tx K mg) : Ok P w K mg base CX0 1 d_law_shrunk ["cells", "steps", "sign"] (spD R_law_shrunk) := by
  obtain ⟨fd, F⟩ := T.fn 80 d_law_shrunk rfl
  exact ok_data (t := t_law_shrunk K P w) F sc_law_shrunk (fun _ _ _ _ _ _ us hl => match us, hl with | [_, _, _], _ => rfl) (len_law_shrunk) (by decide) (fun cdv A outer s H E hr => pss_cons (ps_set (i := 3) sc_law_shrunk.nd rfl (by first | exact Or.inl rfl | exact Or.inr rfl) (pe_lst (pa_nil))) (pss_cons (ps_for PassesOwn.never rfl (pi_tup (pv 0)) (pg_tup rfl (pgs_cons (pg_name (i := 4) sc_law_shrunk.nd rfl (by first | exact Or.inl rfl | exact Or.inr rfl)) (pgs_cons (pg_name (i := 5) sc_law_shrunk.nd rfl (by first | exact Or.inl rfl | exact Or.inr rfl)) (pgs_nil)))) (pss_cons (ps_set (i := 6) sc_law_shrunk.nd rfl (by first | exact Or.inl rfl | exact Or.inr rfl) (pe_tup (pa_cons (pe_op op_sub (pv 4) (pe_op op_mul (pv 2) (pe_ix ix_seq (pe_ix ix_seq (pv 1) (pe_int) (fun _ _ => rfl)) (pe_int) (fun _ _ => rfl)))) (pa_cons (pe_op op_sub (pv 5) (pe_op op_mul (pv 2) (pe_ix ix_seq (pe_ix ix_seq (pv 1) (pe_int) (fun _ _ => rfl)) (pe_int) (fun _ _ => rfl)))) (pa_nil))))) (pss_one (ps_if (pt_val (pe_callB (cr_all rfl) rfl (T.free 69 rfl) boot_all (pa_cons (pe_lc (own := [("step", 7)]) (g := gName 7) (tt := tYes) rfl sc_law_shrunk.nd (pi_tup (pv 1)) (blkOk_by (N := ["cells", "steps", "sign", "found", "row", "column", "spot", "step"]) (sc := defScope s_law_shrunk) (by decide +kernel)) (fun _ _ _ _ _ => pg_name (i := 7) sc_law_shrunk.nd rfl (by first | exact Or.inl rfl | exact Or.inr rfl)) (fun _ _ _ _ _ => pts_nil) (fun _ _ _ _ _ => pe_cmpR (o_in (units65 hr)) (pe_tup (pa_cons (pe_op o_add (pe_ix ix_seq (pv 6) (pe_int) (fun _ _ => rfl)) (pe_op op_mul (pv 2) (pe_ix ix_seq (pv 7) (pe_int) (fun _ _ => rfl)))) (pa_cons (pe_op o_add (pe_ix ix_seq (pv 6) (pe_int) (fun _ _ => rfl)) (pe_op op_mul (pv 2) (pe_ix ix_seq (pv 7) (pe_int) (fun _ _ => rfl)))) (pa_nil)))) (pv 0) rfl)) (pa_nil)))) (pss_one (ps_expr (pe_bm PySem.F.plainAttrs_list PySem.F.slot_list_append PySem.F.type_list_append mt_append (pv 3) (pa_cons (pv 6) (pa_nil))))) (pss_nil))))) (pss_one (ps_ret (pe_callTy r_tuple rfl (T.free 67 rfl) boot_tuple (pa_cons (pe_callB (cr_sortS rfl hr.units) rfl (T.free 66 rfl) boot_sorted (pa_cons (pe_callTy (cr_set rfl hr.units) rfl (T.free 65 rfl) boot_set (pa_cons (pv 3) (pa_nil))) (pa_nil))) (pa_nil))))))) (fun xs z h => .rt (run_law_shrunk (P := P) (w := w) (K := K) xs z h))
end K91
/-! ==== K7 -/
set_option maxRecDepth 100000
set_option maxHeartbeats 4000000
namespace K91
open PySem PySem.Spec PyProof.Rows L2 SG DL
variable {P : Program} {w : World} {K : PySem.W.Frag} {mg : Str → Option Value} {base : Heap}
theorem ok_no {d : He.DefD} {fd : FuncData} {ps : List Str} {k : Nat} (F : FunD K d.name d.qual d.params d.body d.scope [] [] (He.fAd K d.at_) fd)
    (hbind : ∀ (kV doc pm : Value) (an : Option Addr) (cdv ct : Value) (us : List Value), us.length = ps.length → bindArgs (PySem.W.fnOf d.name d.qual d.params d.body d.scope .none kV doc pm an cdv ct) { pos := us } = pure (ps.zip us)) : Ok P w K mg base CX0 k d ps (spD fun _ _ => False) :=
  ⟨fd, ⟨fun vs H Q E h => by obtain ⟨_, _, _, r, _⟩ := h; exact r.elim, fun A outer s H args us vs Q E hr he hb hv h => by obtain ⟨_, _, _, r, _⟩ := h; exact r.elim⟩, F.bindsN hbind, F.kp⟩
def metF (a b : Shp) (m : Bool) : Shp := ((rise (a.1 ++ b.1)).filter fun c => (if m then hasB a c && hasB b c else hasB a c || hasB b c) != (if m then a.2 && b.2 else a.2 || b.2), if m then a.2 && b.2 else a.2 || b.2)
def metQ (a b : Shp) (m : Bool) (l : List Cell) : List Cell := l.filter fun c => (if m then hasB a c && hasB b c else hasB a c || hasB b c) != (if m then a.2 && b.2 else a.2 || b.2)
theorem metQ_more (a b : Shp) (m : Bool) (l : List Cell) (c : Cell) : metQ a b m (l ++ [c]) = metQ a b m l ++ (if ((if m then hasB a c && hasB b c else hasB a c || hasB b c) != (if m then a.2 && b.2 else a.2 || b.2)) = true then [c] else []) := by
  unfold metQ
  rw [List.filter_append]
  congr 1
  rw [List.filter_cons, List.filter_nil]
theorem at_two {x y : PyData} {m : Bool} : L2.atI [x, y] (if m = true then 1 else 0) = some (if m = true then y else x) := by cases m <;> rfl
theorem es_two {ρ : Rho} {ta tb tm : TE} {x y : PyData} {m : Bool} (ha : EvS ta ρ (.im x)) (hb : EvS tb ρ (.im y)) (hm : EvS tm ρ (.im (.bool m))) : EvS (tOp (rIx K) (tLst (tCons ta (tCons tb tNil))) (tCB xInt (tCons tm tNil))) ρ (.im (if m = true then y else x)) :=
  es_op (es_lst (ds := [x, y]) (ea_cons ha (ea_cons hb ea_nil))) (es_cb (ea_cons hm ea_nil) c_intB) (s_ixL rfl at_two)
theorem has_in {ρ : Rho} {te tc tr : TE} {s : Shp} {c : Cell} (h : EvS te ρ (.im (cD c))) (hc : EvS tc ρ (.im (csD s.1))) (hr : EvS tr ρ (.im (.bool s.2))) : EvS (tOp (rNeD K) (tOp (xIn K false) te tc) tr) ρ (.im (.bool (hasB s c))) :=
  es_to (by simp only [SV.dat, any_cell, eqv_bool, hasB]; rfl) (es_op (es_op h hc (s_in (cD_shaped c) (csD_shaped s.1))) hr (s_ne rfl rfl (bool_shaped _) (bool_shaped _)))
theorem if_bool {m x y : Bool} : (if m = true then PyData.bool y else PyData.bool x) = .bool (if m = true then y else x) := by cases m <;> rfl

/-! ### _law_met -/
def R_law_met : List SV → SV → Prop := fun xs z => ∃ (a b : Shp) (m : Bool), xs = [.im (shD a), .im (shD b), .im (.bool m)] ∧ a.1.length + b.1.length ≤ 300 ∧ z = .im (shD (metF a b m))
theorem sc_law_met : FnScope ["one", "other", "met", "behind", "found", "cell", "first", "second"] ["one", "other", "met"] (defScope s_law_met) := ⟨rfl, rfl, rfl, by decide +kernel, rfl, by decide +kernel, by decide +kernel⟩
def t_law_met (K : PySem.W.Frag) (P : Program) (w : World) : TS := tSeq (tAsg (tOp (rIx K) (tLst (tCons (tOrV (tOp (rIx K) (tVar 0) (tC (.int 1))) (tOp (rIx K) (tVar 1) (tC (.int 1)))) (tCons (tAndV (tOp (rIx K) (tVar 0) (tC (.int 1))) (tOp (rIx K) (tVar 1) (tC (.int 1)))) (tNil)))) (tCB (xInt) (tCons (tVar 2) (tNil)))) (gName 3)) (tSeq (tAsg (tLst (tNil)) (gName 4)) (tSeq (tFor (iList K (tCB (rSortS K P w) (tCons (tCB (rSet K P w) (tCons (tOp (xAdd K) (tOp (rIx K) (tVar 0) (tC (.int 0))) (tOp (rIx K) (tVar 1) (tC (.int 0)))) (tNil))) (tNil)))) (gName 5) (tSeq (tAsg (tOp (rNeD K) (tOp (xIn K false) (tVar 5) (tOp (rIx K) (tVar 0) (tC (.int 0)))) (tOp (rIx K) (tVar 0) (tC (.int 1)))) (gName 6)) (tSeq (tAsg (tOp (rNeD K) (tOp (xIn K false) (tVar 5) (tOp (rIx K) (tVar 1) (tC (.int 0)))) (tOp (rIx K) (tVar 1) (tC (.int 1)))) (gName 7)) (tIfS (tTest (tOp (rNeD K) (tOp (rIx K) (tLst (tCons (tOrV (tVar 6) (tVar 7)) (tCons (tAndV (tVar 6) (tVar 7)) (tNil)))) (tCB (xInt) (tCons (tVar 2) (tNil)))) (tVar 3))) (tDrop (tBM K "list" (rAppend) (tVar 4) (tCons (tVar 5) (tNil)))) (tNext))))) (tRet (tTup (tCons (tCB (xTuple K) (tCons (tVar 4) (tNil))) (tCons (tVar 3) (tNil)))))))
theorem len_law_met : ∀ xs z, R_law_met xs z → xs.length = 3 := by
  rintro xs z ⟨_, _, _, rfl, _⟩
  rfl
theorem run_law_met : ∀ xs z, R_law_met xs z → RunS (t_law_met K P w) (xs.map some ++ List.replicate (8 - xs.length) none) (.rt z) := by
  rintro xs z ⟨a, b, m, rfl, hl, rfl⟩
  have ll : (rise (a.1 ++ b.1)).length ≤ 300 := Nat.le_trans (rise_len _) (by rw [List.length_append]; exact hl)
  have bh : (if m = true then a.2 && b.2 else a.2 || b.2) = (metF a b m).2 := rfl
  refine rs_seq (rs_asg (es_to (y := .im (.bool (metF a b m).2)) (congrArg SV.im if_bool) (es_two (es_orV (es_op (es_im rfl) es_int (s_ixT rfl)) fun _ => (es_op (es_im rfl) es_int (s_ixT rfl))) (es_andV (es_op (es_im rfl) es_int (s_ixT rfl)) fun _ => (es_op (es_im rfl) es_int (s_ixT rfl))) (es_im rfl)))) (rs_seq (rs_asg (es_lst (ds := []) ea_nil))
    (rs_seq (rs_forN (ds := (rise (a.1 ++ b.1)).map cD) (es_sortedSet (cs := a.1 ++ b.1) (x := .im (csD (a.1 ++ b.1))) (es_to (congrArg SV.im (cD_app a.1 b.1)) (es_op (es_op (es_im rfl) es_int (s_ixT rfl)) (es_op (es_im rfl) es_int (s_ixT rfl)) (s_addT (by rw [List.length_map, List.length_map]; omega)))) (.inr rfl) (by rw [List.length_append]; exact hl))
      (for_enc (enc := cD) (l := rise (a.1 ++ b.1)) (f := fun q => [some (.im (shD a)), some (.im (shD b)), some (.im (.bool m)), some (.im (.bool (metF a b m).2)), some (.own ((metQ a b m q).map cD)), none, none, none])
        fun q c r e => turn_name (rs_fg (ρ1 := [some (.im (shD a)), some (.im (shD b)), some (.im (.bool m)), some (.im (.bool (metF a b m).2)), some (.own ((metQ a b m (q ++ [c])).map cD)), some (.im (cD c)), some (.im (.bool (hasB a c))), some (.im (.bool (hasB b c)))]) [5, 6, 7] (rs_seq (rs_asg (has_in (es_im rfl) (es_op (es_im rfl) es_int (s_ixT rfl)) (es_op (es_im rfl) es_int (s_ixT rfl)))) (rs_seq (rs_asg (has_in (es_im rfl) (es_op (es_im rfl) es_int (s_ixT rfl)) (es_op (es_im rfl) es_int (s_ixT rfl))))
          (rs_if (b := (if m = true then hasB a c && hasB b c else hasB a c || hasB b c) != (metF a b m).2) (et_to ?_ (et_test (es_op (es_to (congrArg SV.im if_bool) (es_two (es_orV (es_im rfl) fun _ => es_im rfl) (es_andV (es_im rfl) fun _ => es_im rfl) (es_im rfl))) (es_im rfl) (s_ne rfl rfl (bool_shaped _) (bool_shaped _)))))
            (fun h => rs_nx ?_ (rs_append (d := cD c) rfl (es_im rfl) ?_)) (fun h => rs_nx ?_ rs_next)))))))
    (rs_ret (es_tup (ds := [csD (metF a b m).1, .bool (metF a b m).2]) (ea_cons (es_cb (ea_cons (es_var (x := .own ((metQ a b m (rise (a.1 ++ b.1))).map cD)) rfl rfl) ea_nil) (c_tuple rfl)) (ea_cons (es_im rfl) ea_nil))))))
  · simp only [SV.dat, eqv_bool]
    rfl
  · rw [metQ_more, bh, h, if_pos rfl, List.map_append]
    rfl
  · rw [List.length_map]
    have : q.length < (rise (a.1 ++ b.1)).length := by rw [e, List.length_append, List.length_cons]; omega
    have : (metQ a b m q).length ≤ q.length := List.length_filter_le _ _
    omega
  · rw [metQ_more, bh, h, if_neg Bool.false_ne_true, List.append_nil]
    rfl
theorem O_law_met (T : Tx K mg) : Ok P w K mg base CX0 1 d_law_met ["one", "other", "met"] (spD R_law_met) := by
  obtain ⟨fd, F⟩ := T.fn 81 d_law_met rfl
  exact ok_data (t := t_law_met K P w) F sc_law_met (fun _ _ _ _ _ _ us hl => match us, hl with | [_, _, _], _ => rfl) (len_law_met) (by decide) (fun cdv A outer s H E hr => pss_cons (ps_set (i := 3) sc_law_met.nd rfl (by first | exact Or.inl rfl | exact Or.inr rfl) (pe_ix ix_seq (pe_lst (pa_cons (pe_or (pe_ix ix_seq (pv 0) (pe_int) (fun _ _ => rfl)) (pe_one (pe_ix ix_seq (pv 1) (pe_int) (fun _ _ => rfl)))) (pa_cons (pe_and (pe_ix ix_seq (pv 0) (pe_int) (fun _ _ => rfl)) (pe_one (pe_ix ix_seq (pv 1) (pe_int) (fun _ _ => rfl)))) (pa_nil)))) (pe_callTy r_int rfl (T.free 75 rfl) boot_int (pa_cons (pv 2) (pa_nil))) (fun _ _ => rfl))) (pss_cons (ps_set (i := 4) sc_law_met.nd rfl (by first | exact Or.inl rfl | exact Or.inr rfl) (pe_lst (pa_nil))) (pss_cons (ps_for PassesOwn.never rfl (pi_list (pe_callB (cr_sortS rfl hr.units) rfl (T.free 66 rfl) boot_sorted (pa_cons (pe_callTy (cr_set rfl hr.units) rfl (T.free 65 rfl) boot_set (pa_cons (pe_op o_add (pe_ix ix_seq (pv 0) (pe_int) (fun _ _ => rfl)) (pe_ix ix_seq (pv 1) (pe_int) (fun _ _ => rfl))) (pa_nil))) (pa_nil)))) (pg_name (i := 5) sc_law_met.nd rfl (by first | exact Or.inl rfl | exact Or.inr rfl)) (pss_cons (ps_set (i := 6) sc_law_met.nd rfl (by first | exact Or.inl rfl | exact Or.inr rfl) (pe_cmpR (op_neD hr.units) (pe_cmpR (o_in (units65 hr)) (pv 5) (pe_ix ix_seq (pv 0) (pe_int) (fun _ _ => rfl)) rfl) (pe_ix ix_seq (pv 0) (pe_int) (fun _ _ => rfl)) (nomark _))) (pss_cons (ps_set (i := 7) sc_law_met.nd rfl (by first | exact Or.inl rfl | exact Or.inr rfl) (pe_cmpR (op_neD hr.units) (pe_cmpR (o_in (units65 hr)) (pv 5) (pe_ix ix_seq (pv 1) (pe_int) (fun _ _ => rfl)) rfl) (pe_ix ix_seq (pv 1) (pe_int) (fun _ _ => rfl)) (nomark _))) (pss_one (ps_if (pt_cmpR (op_neD hr.units) (pe_ix ix_seq (pe_lst (pa_cons (pe_or (pv 6) (pe_one (pv 7))) (pa_cons (pe_and (pv 6) (pe_one (pv 7))) (pa_nil)))) (pe_callTy r_int rfl (T.free 75 rfl) boot_int (pa_cons (pv 2) (pa_nil))) (fun _ _ => rfl)) (pv 3) (nomark _)) (pss_one (ps_expr (pe_bm PySem.F.plainAttrs_list PySem.F.slot_list_append PySem.F.type_list_append mt_append (pv 4) (pa_cons (pv 5) (pa_nil))))) (pss_nil)))))) (pss_one (ps_ret (pe_tup (pa_cons (pe_callTy r_tuple rfl (T.free 67 rfl) boot_tuple (pa_cons (pv 4) (pa_nil))) (pa_cons (pv 3) (pa_nil))))))))) (fun xs z h => .rt (run_law_met (P := P) (w := w) (K := K) xs z h))

/-! ### _law_tree -/
inductive Tree where
  | none | all | keep
  | move (d : Cell) (t : Tree)
  | eat (p0 : Cell) (ps : List Cell) (t : Tree)
  | grow (p0 : Cell) (ps : List Cell) (t : Tree)
  | both (a b : Tree)
  | either (a b : Tree)
def treeD : Tree → PyData
  | .none => .tuple [.str "none"]
  | .all => .tuple [.str "all"]
  | .keep => .tuple [.str "keep"]
  | .move d t => .tuple [.str "move", cD d, treeD t]
  | .eat p0 ps t => .tuple [.str "eat", csD (p0 :: ps), treeD t]
  | .grow p0 ps t => .tuple [.str "grow", csD (p0 :: ps), treeD t]
  | .both a b => .tuple [.str "both", treeD a, treeD b]
  | .either a b => .tuple [.str "either", treeD a, treeD b]
def leafF (w : Int) : Tree := if w = 0 then .none else if w = 1 then .all else .keep
def treeF : Nat → Int → Int × Tree
  | 0, n => (n / 13 / 9, leafF (n / 13 % 9))
  | r + 1, n =>
    if n % 13 = 0 then (n / 13 / 9, leafF (n / 13 % 9))
    else if n % 13 < 3 then ((treeF r (pieceF (n / 13) 1).1).1, .move ((pieceF (n / 13) 1).2.headD (0, 0)) (treeF r (pieceF (n / 13) 1).1).2)
    else if n % 13 < 9 then ((treeF r (pieceF (n / 13) 3).1).1, if n % 13 % 2 = 0 then .eat ((pieceF (n / 13) 3).2.headD (0, 0)) (pieceF (n / 13) 3).2.tail (treeF r (pieceF (n / 13) 3).1).2 else .grow ((pieceF (n / 13) 3).2.headD (0, 0)) (pieceF (n / 13) 3).2.tail (treeF r (pieceF (n / 13) 3).1).2)
    else ((treeF r (treeF r (n / 13)).1).1, if n % 13 % 2 = 0 then .both (treeF r (n / 13)).2 (treeF r (treeF r (n / 13)).1).2 else .either (treeF r (n / 13)).2 (treeF r (treeF r (n / 13)).1).2)
theorem pieceF_ne (n : Int) {m : Int} (h : 0 < m) : ∃ s0 st, (pieceF n m).2 = s0 :: st := by
  have h0 := Int.emod_nonneg n (Int.ne_of_gt h)
  obtain ⟨k, hk⟩ : ∃ k : Nat, (n % m + 1).toNat = k + 1 := ⟨(n % m).toNat, by omega⟩
  have : ((pieceI (n / m) k).1 % 3 - 1, (pieceI (n / m) k).1 / 3 % 3 - 1) ∈ (pieceF n m).2 := by
    unfold pieceF
    rw [hk, pieceI_more]
    exact mem_rise.2 (List.mem_append_right _ (List.mem_singleton.2 rfl))
  cases e : (pieceF n m).2 with
  | nil => rw [e] at this; cases this
  | cons a b => exact ⟨a, b, rfl⟩
theorem at_pick {x y : PyData} {i : Int} : L2.atI [x, y] (i % 2) = some (if i % 2 = 0 then x else y) := by
  have : i % 2 = 0 ∨ i % 2 = 1 := by omega
  rcases this with h | h <;> rw [h] <;> rfl
theorem at_leaf {i : Int} (h0 : 0 ≤ i) : L2.atI [treeD .none, treeD .all, treeD .keep] (if i < 2 then i else 2) = some (treeD (leafF i)) := by
  by_cases h : i < 2
  · rw [if_pos h]
    have : i = 0 ∨ i = 1 := by omega
    rcases this with rfl | rfl <;> rfl
  · rw [if_neg h]
    unfold leafF
    rw [if_neg (by omega), if_neg (by omega)]
    rfl
def R_law_tree (k : Nat) : List SV → SV → Prop := fun xs z => ∃ (n : Int) (r : Nat), xs = [.im (.int n), .im (.int r)] ∧ r ≤ k ∧ z = .im (.tuple [.int (treeF r n).1, treeD (treeF r n).2])
theorem len_law_tree (k : Nat) : ∀ xs z, R_law_tree k xs z → xs.length = 2 := by
  rintro xs z ⟨_, _, rfl, _⟩
  rfl
theorem sc_law_tree : FnScope ["number", "room", "way", "steps", "inner", "one", "other"] ["number", "room"] (defScope s_law_tree) := ⟨rfl, rfl, rfl, by decide +kernel, rfl, by decide +kernel, by decide +kernel⟩
def t_law_tree (K : PySem.W.Frag) (P : Program) (w : World) (S : List SV → SV → Prop) : TS := tSeq (tAsg (tCB (xDivmod) (tCons (tVar 0) (tCons (tC (.int 13)) (tNil)))) (gTup K 2 (gCons (gName 0) (gCons (gName 2) (gNil))))) (tSeq (tIfS (tOr (tTest (tOp (rEqD K) (tVar 1) (tC (.int 0)))) (tTest (tOp (rEqD K) (tVar 2) (tC (.int 0))))) (tSeq (tAsg (tCB (xDivmod) (tCons (tVar 0) (tCons (tC (.int 9)) (tNil)))) (gTup K 2 (gCons (gName 0) (gCons (gName 2) (gNil))))) (tRet (tTup (tCons (tVar 0) (tCons (tOp (rIx K) (tLst (tCons (tTup (tCons (tC (.str "none")) (tNil))) (tCons (tTup (tCons (tC (.str "all")) (tNil))) (tCons (tTup (tCons (tC (.str "keep")) (tNil))) (tNil))))) (tCB (xMin) (tCons (tC (.int 2)) (tCons (tVar 2) (tNil))))) (tNil)))))) (tNext)) (tSeq (tIfS (tTest (tOp (rI0 fun i j => .bl (decide (i < j))) (tVar 2) (tC (.int 3)))) (tSeq (tAsg (tCall (spD R_law_piece) [] E0 (tCons (tVar 0) (tCons (tC (.int 1)) (tNil)))) (gTup K 2 (gCons (gName 0) (gCons (gName 3) (gNil))))) (tSeq (tAsg (tCall (spD S) [] E0 (tCons (tVar 0) (tCons (tOp (rI0 fun i j => .int (i - j)) (tVar 1) (tC (.int 1))) (tNil)))) (gTup K 2 (gCons (gName 0) (gCons (gName 4) (gNil))))) (tRet (tTup (tCons (tVar 0) (tCons (tTup (tCons (tC (.str "move")) (tCons (tOp (rIx K) (tVar 3) (tC (.int 0))) (tCons (tVar 4) (tNil))))) (tNil))))))) (tNext)) (tSeq (tIfS (tTest (tOp (rI0 fun i j => .bl (decide (i < j))) (tVar 2) (tC (.int 9)))) (tSeq (tAsg (tCall (spD R_law_piece) [] E0 (tCons (tVar 0) (tCons (tC (.int 3)) (tNil)))) (gTup K 2 (gCons (gName 0) (gCons (gName 3) (gNil))))) (tSeq (tAsg (tCall (spD S) [] E0 (tCons (tVar 0) (tCons (tOp (rI0 fun i j => .int (i - j)) (tVar 1) (tC (.int 1))) (tNil)))) (gTup K 2 (gCons (gName 0) (gCons (gName 4) (gNil))))) (tRet (tTup (tCons (tVar 0) (tCons (tTup (tCons (tOp (rIx K) (tLst (tCons (tC (.str "eat")) (tCons (tC (.str "grow")) (tNil)))) (tOp (rI (fun _ j => 0 < j) fun i j => .int (i % j)) (tVar 2) (tC (.int 2)))) (tCons (tVar 3) (tCons (tVar 4) (tNil))))) (tNil))))))) (tNext)) (tSeq (tAsg (tCall (spD S) [] E0 (tCons (tVar 0) (tCons (tOp (rI0 fun i j => .int (i - j)) (tVar 1) (tC (.int 1))) (tNil)))) (gTup K 2 (gCons (gName 0) (gCons (gName 5) (gNil))))) (tSeq (tAsg (tCall (spD S) [] E0 (tCons (tVar 0) (tCons (tOp (rI0 fun i j => .int (i - j)) (tVar 1) (tC (.int 1))) (tNil)))) (gTup K 2 (gCons (gName 0) (gCons (gName 6) (gNil))))) (tRet (tTup (tCons (tVar 0) (tCons (tTup (tCons (tOp (rIx K) (tLst (tCons (tC (.str "both")) (tCons (tC (.str "either")) (tNil)))) (tOp (rI (fun _ j => 0 < j) fun i j => .int (i % j)) (tVar 2) (tC (.int 2)))) (tCons (tVar 5) (tCons (tVar 6) (tNil))))) (tNil))))))))))
theorem step_law_tree (T : Tx K mg) {S R : List SV → SV → Prop} {j : Nat} (hj : 1 ≤ j) (OS : Ok P w K mg base CX0 j d_law_tree ["number", "room"] (spD S)) (len : ∀ xs z, R xs z → xs.length = 2)
    (run : ∀ xs z, R xs z → RunS (t_law_tree K P w S) (xs.map some ++ List.replicate (7 - xs.length) none) (.rt z)) : Ok P w K mg base CX0 (j + 1) d_law_tree ["number", "room"] (spD R) := by
  obtain ⟨fd, F⟩ := T.fn 75 d_law_tree rfl
  exact ok_data (t := t_law_tree K P w S) F sc_law_tree (fun _ _ _ _ _ _ us hl => match us, hl with | [_, _], _ => rfl) len (by decide) (fun cdv A outer s H E hr => pss_cons (ps_asg (pe_callB r_divmod rfl (T.free 73 rfl) boot_divmod (pa_cons (pv 0) (pa_cons (pe_int) (pa_nil)))) (pg_tup rfl (pgs_cons (pg_name (i := 0) sc_law_tree.nd rfl (by first | exact Or.inl rfl | exact Or.inr rfl)) (pgs_cons (pg_name (i := 2) sc_law_tree.nd rfl (by first | exact Or.inl rfl | exact Or.inr rfl)) (pgs_nil))))) (pss_cons (ps_if (PW.pt (pw_or (pt_cmpR (op_eqD hr.units) (pv 1) (pe_int) (nomark _)) (pw_or1 (pt_cmpR (op_eqD hr.units) (pv 2) (pe_int) (nomark _))))) (pss_cons (ps_asg (pe_callB r_divmod rfl (T.free 73 rfl) boot_divmod (pa_cons (pv 0) (pa_cons (pe_int) (pa_nil)))) (pg_tup rfl (pgs_cons (pg_name (i := 0) sc_law_tree.nd rfl (by first | exact Or.inl rfl | exact Or.inr rfl)) (pgs_cons (pg_name (i := 2) sc_law_tree.nd rfl (by first | exact Or.inl rfl | exact Or.inr rfl)) (pgs_nil))))) (pss_one (ps_ret (pe_tup (pa_cons (pv 0) (pa_cons (pe_ix ix_seq (pe_lst (pa_cons (pe_tup (pa_cons (pe_str) (pa_nil))) (pa_cons (pe_tup (pa_cons (pe_str) (pa_nil))) (pa_cons (pe_tup (pa_cons (pe_str) (pa_nil))) (pa_nil))))) (pe_callB (r_min rfl) rfl (T.free 72 rfl) boot_min (pa_cons (pe_int) (pa_cons (pv 2) (pa_nil)))) (fun _ _ => rfl)) (pa_nil))))))) (pss_nil)) (pss_cons (ps_if (pt_cmpR op_lt (pv 2) (pe_int) (nomark _)) (pss_cons (ps_asg (pe_own (O_law_piece T) (hr.mono (by first | decide | omega)) rfl (T.glo 46 rfl) pass0 (pa_cons (pv 0) (pa_cons (pe_int) (pa_nil)))) (pg_tup rfl (pgs_cons (pg_name (i := 0) sc_law_tree.nd rfl (by first | exact Or.inl rfl | exact Or.inr rfl)) (pgs_cons (pg_name (i := 3) sc_law_tree.nd rfl (by first | exact Or.inl rfl | exact Or.inr rfl)) (pgs_nil))))) (pss_cons (ps_asg (pe_own OS (hr.mono (by first | decide | omega)) rfl (T.glo 47 rfl) pass0 (pa_cons (pv 0) (pa_cons (pe_op op_sub (pv 1) (pe_int)) (pa_nil)))) (pg_tup rfl (pgs_cons (pg_name (i := 0) sc_law_tree.nd rfl (by first | exact Or.inl rfl | exact Or.inr rfl)) (pgs_cons (pg_name (i := 4) sc_law_tree.nd rfl (by first | exact Or.inl rfl | exact Or.inr rfl)) (pgs_nil))))) (pss_one (ps_ret (pe_tup (pa_cons (pv 0) (pa_cons (pe_tup (pa_cons (pe_str) (pa_cons (pe_ix ix_seq (pv 3) (pe_int) (fun _ _ => rfl)) (pa_cons (pv 4) (pa_nil))))) (pa_nil)))))))) (pss_nil)) (pss_cons (ps_if (pt_cmpR op_lt (pv 2) (pe_int) (nomark _)) (pss_cons (ps_asg (pe_own (O_law_piece T) (hr.mono (by first | decide | omega)) rfl (T.glo 46 rfl) pass0 (pa_cons (pv 0) (pa_cons (pe_int) (pa_nil)))) (pg_tup rfl (pgs_cons (pg_name (i := 0) sc_law_tree.nd rfl (by first | exact Or.inl rfl | exact Or.inr rfl)) (pgs_cons (pg_name (i := 3) sc_law_tree.nd rfl (by first | exact Or.inl rfl | exact Or.inr rfl)) (pgs_nil))))) (pss_cons (ps_asg (pe_own OS (hr.mono (by first | decide | omega)) rfl (T.glo 47 rfl) pass0 (pa_cons (pv 0) (pa_cons (pe_op op_sub (pv 1) (pe_int)) (pa_nil)))) (pg_tup rfl (pgs_cons (pg_name (i := 0) sc_law_tree.nd rfl (by first | exact Or.inl rfl | exact Or.inr rfl)) (pgs_cons (pg_name (i := 4) sc_law_tree.nd rfl (by first | exact Or.inl rfl | exact Or.inr rfl)) (pgs_nil))))) (pss_one (ps_ret (pe_tup (pa_cons (pv 0) (pa_cons (pe_tup (pa_cons (pe_ix ix_seq (pe_lst (pa_cons (pe_str) (pa_cons (pe_str) (pa_nil)))) (pe_op op_mod (pv 2) (pe_int)) (fun _ _ => rfl)) (pa_cons (pv 3) (pa_cons (pv 4) (pa_nil))))) (pa_nil)))))))) (pss_nil)) (pss_cons (ps_asg (pe_own OS (hr.mono (by first | decide | omega)) rfl (T.glo 47 rfl) pass0 (pa_cons (pv 0) (pa_cons (pe_op op_sub (pv 1) (pe_int)) (pa_nil)))) (pg_tup rfl (pgs_cons (pg_name (i := 0) sc_law_tree.nd rfl (by first | exact Or.inl rfl | exact Or.inr rfl)) (pgs_cons (pg_name (i := 5) sc_law_tree.nd rfl (by first | exact Or.inl rfl | exact Or.inr rfl)) (pgs_nil))))) (pss_cons (ps_asg (pe_own OS (hr.mono (by first | decide | omega)) rfl (T.glo 47 rfl) pass0 (pa_cons (pv 0) (pa_cons (pe_op op_sub (pv 1) (pe_int)) (pa_nil)))) (pg_tup rfl (pgs_cons (pg_name (i := 0) sc_law_tree.nd rfl (by first | exact Or.inl rfl | exact Or.inr rfl)) (pgs_cons (pg_name (i := 6) sc_law_tree.nd rfl (by first | exact Or.inl rfl | exact Or.inr rfl)) (pgs_nil))))) (pss_one (ps_ret (pe_tup (pa_cons (pv 0) (pa_cons (pe_tup (pa_cons (pe_ix ix_seq (pe_lst (pa_cons (pe_str) (pa_cons (pe_str) (pa_nil)))) (pe_op op_mod (pv 2) (pe_int)) (fun _ _ => rfl)) (pa_cons (pv 5) (pa_cons (pv 6) (pa_nil))))) (pa_nil)))))))))))) (fun xs z h => .rt (run xs z h))
theorem no_law_tree (T : Tx K mg) (j : Nat) : Ok P w K mg base CX0 j d_law_tree ["number", "room"] (spD fun _ _ => False) := by
  obtain ⟨fd, F⟩ := T.fn 75 d_law_tree rfl
  exact ok_no F (fun _ _ _ _ _ _ us hl => match us, hl with | [_, _], _ => rfl)

theorem run_law_tree {S : List SV → SV → Prop} (n : Int) (r : Nat) (hS : ∀ r', r = r' + 1 → ∀ m : Int, S [.im (.int m), .im (.int ((r' : Nat) : Int))] (.im (.tuple [.int (treeF r' m).1, treeD (treeF r' m).2]))) :
    RunS (t_law_tree K P w S) ([.im (.int n), .im (.int r)].map some ++ List.replicate (7 - 2) none) (.rt (.im (.tuple [.int (treeF r n).1, treeD (treeF r n).2]))) := by
  have w0 := Int.emod_nonneg n (by decide : (13 : Int) ≠ 0)
  have w1 := Int.emod_lt_of_pos n (by decide : (0 : Int) < 13)
  have leaf : (r = 0 ∨ n % 13 = 0) → treeF r n = (n / 13 / 9, leafF (n / 13 % 9)) := fun h => by
    cases r with
    | zero => rfl
    | succ r => unfold treeF; rw [if_pos (by omega)]
  refine rs_seq (rs_asg2 (es_divmod (es_im rfl) es_int (by decide) (by decide))) ?_
  by_cases hc : r = 0 ∨ n % 13 = 0
  · rw [leaf hc]
    refine rs_ifRt (et_to ?_ (et_or (et_test (es_op (es_im rfl) es_int (s_eq rfl rfl (int_shaped _) (int_shaped _)))) fun _ => et_test (es_op (es_im rfl) es_int (s_eq rfl rfl (int_shaped _) (int_shaped _)))))
      (rs_seq (rs_asg2 (es_divmod (es_im rfl) es_int (by decide) (by decide))) (rs_ret (es_tup (ds := [.int (n / 13 / 9), treeD (leafF (n / 13 % 9))]) (ea_cons (es_im rfl) (ea_cons (es_op (es_lst (ds := [treeD .none, treeD .all, treeD .keep]) (ea_cons (es_tup (ds := [.str "none"]) (ea_cons es_str ea_nil)) (ea_cons (es_tup (ds := [.str "all"]) (ea_cons es_str ea_nil)) (ea_cons (es_tup (ds := [.str "keep"]) (ea_cons es_str ea_nil)) ea_nil))))
        (es_to (by rfl) (es_cb (ea_cons es_int (ea_cons (es_im rfl) ea_nil)) c_min)) (s_ixL rfl (at_leaf (Int.emod_nonneg _ (by decide))))) ea_nil)))))
    simp only [SV.dat, int_eqv]
    rw [Bool.or_eq_true, decide_eq_true_iff, decide_eq_true_iff]
    omega
  · obtain ⟨r', rfl⟩ : ∃ r', r = r' + 1 := ⟨r - 1, by omega⟩
    have hS := hS r' rfl
    have rm : EvS (tOp (rI0 fun i j => .int (i - j)) (tVar 1) (tC (.int 1))) = EvS (tOp (rI0 fun i j => .int (i - j)) (tVar 1) (tC (.int 1))) := rfl
    have R1 : ∀ {ρ : Rho} (h : ρ[1]? = some (some (.im (.int ((r' + 1 : Nat) : Int))))), EvS (tOp (rI0 fun i j => .int (i - j)) (tVar 1) (tC (.int 1))) ρ (.im (.int ((r' : Nat) : Int))) := fun h => es_to (by congr 2; omega) (es_op (es_im h) es_int s_sub)
    refine rs_ifNo (et_to ?_ (et_or (et_test (es_op (es_im rfl) es_int (s_eq rfl rfl (int_shaped _) (int_shaped _)))) fun _ => et_test (es_op (es_im rfl) es_int (s_eq rfl rfl (int_shaped _) (int_shaped _))))) ?_
    · simp only [SV.dat, int_eqv]
      rw [Bool.or_eq_false_iff, decide_eq_false_iff_not, decide_eq_false_iff_not]
      omega
    · have nz : ¬ n % 13 = 0 := fun z => hc (.inr z)
      by_cases h3 : n % 13 < 3
      · have e : treeF (r' + 1) n = ((treeF r' (pieceF (n / 13) 1).1).1, .move ((pieceF (n / 13) 1).2.headD (0, 0)) (treeF r' (pieceF (n / 13) 1).1).2) := by
          rw [treeF, if_neg nz, if_pos h3]
        obtain ⟨s0, st, es⟩ := pieceF_ne (n / 13) (by decide : (0 : Int) < 1)
        have ix0 : L2.atI ((pieceF (n / 13) 1).2.map cD) 0 = some (cD ((pieceF (n / 13) 1).2.headD (0, 0))) := by
          rw [es]
          exact atI_nat (j := 0) (xs := (s0 :: st).map cD) rfl
        rw [e]
        exact rs_ifRt (et_to (decide_eq_true h3) (et_test (es_op (es_im rfl) es_int s_lt))) (rs_seq (rs_asg2 (es_call (z := .im (.tuple [.int (pieceF (n / 13) 1).1, csD (pieceF (n / 13) 1).2])) (ea_cons (es_im rfl) (ea_cons es_int ea_nil)) ⟨n / 13, 1, rfl, by decide, by decide, rfl⟩))
          (rs_seq (rs_asg2 (es_call (z := .im (.tuple [.int (treeF r' (pieceF (n / 13) 1).1).1, treeD (treeF r' (pieceF (n / 13) 1).1).2])) (ea_cons (es_im rfl) (ea_cons (R1 rfl) ea_nil)) (hS _)))
          (rs_ret (es_tup (ds := [.int (treeF r' (pieceF (n / 13) 1).1).1, .tuple [.str "move", cD ((pieceF (n / 13) 1).2.headD (0, 0)), treeD (treeF r' (pieceF (n / 13) 1).1).2]]) (ea_cons (es_im rfl) (ea_cons (es_tup (ds := [.str "move", cD ((pieceF (n / 13) 1).2.headD (0, 0)), treeD (treeF r' (pieceF (n / 13) 1).1).2]) (ea_cons es_str (ea_cons (es_op (z := .im (cD ((pieceF (n / 13) 1).2.headD (0, 0)))) (es_im rfl) es_int (s_ixT ix0)) (ea_cons (es_im rfl) ea_nil)))) ea_nil))))))
      · refine rs_ifNo (et_to (decide_eq_false h3) (et_test (es_op (es_im rfl) es_int s_lt))) ?_
        by_cases h9 : n % 13 < 9
        · have e : treeF (r' + 1) n = ((treeF r' (pieceF (n / 13) 3).1).1, if n % 13 % 2 = 0 then .eat ((pieceF (n / 13) 3).2.headD (0, 0)) (pieceF (n / 13) 3).2.tail (treeF r' (pieceF (n / 13) 3).1).2 else .grow ((pieceF (n / 13) 3).2.headD (0, 0)) (pieceF (n / 13) 3).2.tail (treeF r' (pieceF (n / 13) 3).1).2) := by
            rw [treeF, if_neg nz, if_neg h3, if_pos h9]
          obtain ⟨s0, st, es⟩ := pieceF_ne (n / 13) (by decide : (0 : Int) < 3)
          have ec : (pieceF (n / 13) 3).2 = (pieceF (n / 13) 3).2.headD (0, 0) :: (pieceF (n / 13) 3).2.tail := by rw [es] <;> rfl
          have et : treeD (treeF (r' + 1) n).2 = .tuple [if n % 13 % 2 = 0 then .str "eat" else .str "grow", csD (pieceF (n / 13) 3).2, treeD (treeF r' (pieceF (n / 13) 3).1).2] := by
            rw [e]
            split <;> simp only [treeD, ← ec]
          rw [show (treeF (r' + 1) n).1 = (treeF r' (pieceF (n / 13) 3).1).1 by rw [e], et]
          exact rs_ifRt (et_to (decide_eq_true h9) (et_test (es_op (es_im rfl) es_int s_lt))) (rs_seq (rs_asg2 (es_call (z := .im (.tuple [.int (pieceF (n / 13) 3).1, csD (pieceF (n / 13) 3).2])) (ea_cons (es_im rfl) (ea_cons es_int ea_nil)) ⟨n / 13, 3, rfl, by decide, by decide, rfl⟩))
            (rs_seq (rs_asg2 (es_call (z := .im (.tuple [.int (treeF r' (pieceF (n / 13) 3).1).1, treeD (treeF r' (pieceF (n / 13) 3).1).2])) (ea_cons (es_im rfl) (ea_cons (R1 rfl) ea_nil)) (hS _)))
            (rs_ret (es_tup (ds := [.int (treeF r' (pieceF (n / 13) 3).1).1, .tuple [if n % 13 % 2 = 0 then .str "eat" else .str "grow", csD (pieceF (n / 13) 3).2, treeD (treeF r' (pieceF (n / 13) 3).1).2]]) (ea_cons (es_im rfl) (ea_cons (es_tup (ds := [if n % 13 % 2 = 0 then .str "eat" else .str "grow", csD (pieceF (n / 13) 3).2, treeD (treeF r' (pieceF (n / 13) 3).1).2])
              (ea_cons (es_op (es_lst (ds := [.str "eat", .str "grow"]) (ea_cons es_str (ea_cons es_str ea_nil))) (es_op (es_im rfl) es_int (s_mod (by decide))) (s_ixL rfl at_pick)) (ea_cons (es_im rfl) (ea_cons (es_im rfl) ea_nil)))) ea_nil))))))
        · have e : treeF (r' + 1) n = ((treeF r' (treeF r' (n / 13)).1).1, if n % 13 % 2 = 0 then .both (treeF r' (n / 13)).2 (treeF r' (treeF r' (n / 13)).1).2 else .either (treeF r' (n / 13)).2 (treeF r' (treeF r' (n / 13)).1).2) := by
            rw [treeF, if_neg nz, if_neg h3, if_neg h9]
          have et : treeD (treeF (r' + 1) n).2 = .tuple [if n % 13 % 2 = 0 then .str "both" else .str "either", treeD (treeF r' (n / 13)).2, treeD (treeF r' (treeF r' (n / 13)).1).2] := by
            rw [e]
            split <;> simp only [treeD]
          rw [show (treeF (r' + 1) n).1 = (treeF r' (treeF r' (n / 13)).1).1 by rw [e], et]
          exact rs_ifNo (et_to (decide_eq_false h9) (et_test (es_op (es_im rfl) es_int s_lt))) (rs_seq (rs_asg2 (es_call (z := .im (.tuple [.int (treeF r' (n / 13)).1, treeD (treeF r' (n / 13)).2])) (ea_cons (es_im rfl) (ea_cons (R1 rfl) ea_nil)) (hS _)))
            (rs_seq (rs_asg2 (es_call (z := .im (.tuple [.int (treeF r' (treeF r' (n / 13)).1).1, treeD (treeF r' (treeF r' (n / 13)).1).2])) (ea_cons (es_im rfl) (ea_cons (R1 rfl) ea_nil)) (hS _)))
            (rs_ret (es_tup (ds := [.int (treeF r' (treeF r' (n / 13)).1).1, .tuple [if n % 13 % 2 = 0 then .str "both" else .str "either", treeD (treeF r' (n / 13)).2, treeD (treeF r' (treeF r' (n / 13)).1).2]]) (ea_cons (es_im rfl) (ea_cons (es_tup (ds := [if n % 13 % 2 = 0 then .str "both" else .str "either", treeD (treeF r' (n / 13)).2, treeD (treeF r' (treeF r' (n / 13)).1).2])
              (ea_cons (es_op (es_lst (ds := [.str "both", .str "either"]) (ea_cons es_str (ea_cons es_str ea_nil))) (es_op (es_im rfl) es_int (s_mod (by decide))) (s_ixL rfl at_pick)) (ea_cons (es_im rfl) (ea_cons (es_im rfl) ea_nil)))) ea_nil))))))
theorem O_law_tree (T : Tx K mg) : ∀ k : Nat, Ok P w K mg base CX0 (k + 2) d_law_tree ["number", "room"] (spD (R_law_tree k))
  | 0 => step_law_tree T (by decide) (no_law_tree T 1) (len_law_tree 0) fun xs z h => by
    obtain ⟨n, r, rfl, hr, rfl⟩ := h
    exact run_law_tree n r fun r' e => absurd e (by omega)
  | k + 1 => step_law_tree T (by omega) (O_law_tree T k) (len_law_tree (k + 1)) fun xs z h => by
    obtain ⟨n, r, rfl, hr, rfl⟩ := h
    exact run_law_tree n r fun r' e m => ⟨m, r', rfl, by omega, rfl⟩
end K91
/-! ==== K8 -/
set_option maxRecDepth 100000
set_option maxHeartbeats 4000000
namespace K91
open PySem PySem.Spec PyProof.Rows L2 SG DL
variable {P : Program} {w : World} {K : PySem.W.Frag} {mg : Str → Option Value} {base : Heap}
/-- the words of a plan -/
def wordsF : Tree → List Str
  | .none => ["none"]
  | .all => ["all"]
  | .keep => ["keep"]
  | .move d t => [("move" : Str), numT d.1, numT d.2] ++ wordsF t
  | .eat p0 ps t => ([("eat" : Str), numT (p0 :: ps).length] ++ cellW (p0 :: ps)) ++ wordsF t
  | .grow p0 ps t => ([("grow" : Str), numT (p0 :: ps).length] ++ cellW (p0 :: ps)) ++ wordsF t
  | .both a b => ([("both" : Str)] ++ wordsF a) ++ wordsF b
  | .either a b => ([("either" : Str)] ++ wordsF a) ++ wordsF b
def dep : Tree → Nat
  | .move _ t => dep t + 1
  | .eat _ _ t => dep t + 1
  | .grow _ _ t => dep t + 1
  | .both a b => max (dep a) (dep b) + 1
  | .either a b => max (dep a) (dep b) + 1
  | _ => 0
/-- small steps -/
def smallC (c : Cell) : Bool := decide (c.1.natAbs ≤ 1) && decide (c.2.natAbs ≤ 1)
def smallT : Tree → Bool
  | .move d t => smallC d && smallT t
  | .eat p0 ps t => (decide (ps.length ≤ 2) && (p0 :: ps).all smallC) && smallT t
  | .grow p0 ps t => (decide (ps.length ≤ 2) && (p0 :: ps).all smallC) && smallT t
  | .both a b => smallT a && smallT b
  | .either a b => smallT a && smallT b
  | _ => true
def tagF : Tree → Str
  | .none => "none"
  | .all => "all"
  | .keep => "keep"
  | .move _ _ => "move"
  | .eat _ _ _ => "eat"
  | .grow _ _ _ => "grow"
  | .both _ _ => "both"
  | .either _ _ => "either"
def strsD (l : List Str) : PyData := .tuple (l.map .str)
theorem small_log {i : Int} (h : i.natAbs < 10 ^ 14) : i.natAbs.log2 < 1920 := by
  by_cases z : i.natAbs = 0
  · rw [z]; decide
  · exact Nat.lt_trans ((Nat.log2_lt z).2 (Nat.lt_trans h (by decide : 10 ^ 14 < 2 ^ 64))) (by decide)
theorem any_str (l : List Str) (x : Str) : ((l.map PyData.str).any fun z => PyData.eqv z (.str x)) = decide (x ∈ l) := by
  rw [Bool.eq_iff_iff, List.any_map, List.any_eq_true, decide_eq_true_iff]
  constructor
  · rintro ⟨d, hd, e⟩
    have e' : PyData.eqv (.str d) (.str x) = true := e
    rw [str_eqv, decide_eq_true_iff] at e'
    exact e' ▸ hd
  · intro h
    refine ⟨x, h, ?_⟩
    show PyData.eqv (.str x) (.str x) = true
    rw [str_eqv, decide_eq_true_iff]
theorem treeD_head (t : Tree) : ∃ ds, treeD t = .tuple (.str (tagF t) :: ds) := by cases t <;> exact ⟨_, rfl⟩
theorem es_tag {ρ : Rho} {i : Nat} {t : Tree} (h : ρ[i]? = some (some (.im (treeD t)))) : EvS (tOp (rIx K) (tVar i) (tC (.int 0))) ρ (.im (.str (tagF t))) := by
  obtain ⟨ds, e⟩ := treeD_head t
  exact es_op (es_im (h.trans (by rw [e]))) es_int (s_ixT (atI_nat (j := 0) (xs := PyData.str (tagF t) :: ds) rfl))
theorem tag_ok (t : Tree) : PyData.strOk (tagF t) = true := by
  cases t
  · show PyData.strOk "none" = true; decide +kernel
  · show PyData.strOk "all" = true; decide +kernel
  · show PyData.strOk "keep" = true; decide +kernel
  · show PyData.strOk "move" = true; decide +kernel
  · show PyData.strOk "eat" = true; decide +kernel
  · show PyData.strOk "grow" = true; decide +kernel
  · show PyData.strOk "both" = true; decide +kernel
  · show PyData.strOk "either" = true; decide +kernel
theorem es_strs3 {ρ : Rho} {a b c : Str} : EvS (tTup (tCons (tC (.str a)) (tCons (tC (.str b)) (tCons (tC (.str c)) tNil)))) ρ (.im (.tuple ([a, b, c].map .str))) := es_tup (ds := [.str a, .str b, .str c]) (ea_cons es_str (ea_cons es_str (ea_cons es_str ea_nil)))
theorem es_strs2 {ρ : Rho} {a b : Str} : EvS (tTup (tCons (tC (.str a)) (tCons (tC (.str b)) tNil))) ρ (.im (.tuple ([a, b].map .str))) := es_tup (ds := [.str a, .str b]) (ea_cons es_str (ea_cons es_str ea_nil))
theorem strs_shaped {l : List Str} (h : l.all PyData.strOk = true) : SeqAt.shaped (.tuple (l.map .str)) = true := by
  have a : ∀ l : List Str, l.all PyData.strOk = true → PyData.canLayAll0 (l.map .str) = true := fun l => by
    induction l with
    | nil => intro _; simp [PyData.canLayAll0]
    | cons x l ih =>
      intro h
      rw [List.all_cons, Bool.and_eq_true] at h
      simp [PyData.canLayAll0, PyData.canLay0, h.1, ih h.2]
  have b : ∀ l : List Str, PyData.depthAll (l.map .str) = 0 := fun l => by
    induction l with
    | nil => simp [PyData.depthAll]
    | cons x l ih => simp [PyData.depthAll, PyData.depth, ih]
  simp [SeqAt.shaped, PyData.canLay0, PyData.depth, a l h, b l]
/-- x in ("..", ..) -/
theorem es_inT {ρ : Rho} {te tt : TE} {x : Str} {l : List Str} (h : EvS te ρ (.im (.str x))) (ht : EvS tt ρ (.im (.tuple (l.map .str)))) (hx : PyData.strOk x = true) (hl : l.all PyData.strOk = true) : EvS (tOp (xIn K false) te tt) ρ (.im (.bool (decide (x ∈ l)))) :=
  es_to (congrArg (fun b => SV.im (.bool b)) (any_str l x)) (es_op h ht (s_in (str_shaped hx) (strs_shaped hl)))
theorem es_isT {ρ : Rho} {te : TE} {x y : Str} (h : EvS te ρ (.im (.str x))) (hx : PyData.strOk x = true) (hy : PyData.strOk y = true) : EvS (tOp (rEqD K) te (tC (.str y))) ρ (.im (.bool (decide (x = y)))) :=
  es_to (congrArg (fun b => SV.im (.bool b)) (str_eqv x y)) (es_op h es_str (s_eq rfl rfl (str_shaped hx) (str_shaped hy)))
def R_law_words (k : Nat) : List SV → SV → Prop := fun xs z => ∃ (t : Tree), xs = [.im (treeD t)] ∧ dep t ≤ k ∧ smallT t = true ∧ (wordsF t).length ≤ 1000 ∧ z = .own ((wordsF t).map .str)
theorem len_law_words (k : Nat) : ∀ xs z, R_law_words k xs z → xs.length = 1 := by
  rintro xs z ⟨_, rfl, _⟩
  rfl
/-- the trees right below -/
def subs : Tree → List Tree
  | .move _ t => [t]
  | .eat _ _ t => [t]
  | .grow _ _ t => [t]
  | .both a b => [a, b]
  | .either a b => [a, b]
  | _ => []

/-! ### _law_words -/
theorem sc_law_words : FnScope ["tree", "words", "row", "column"] ["tree"] (defScope s_law_words) := ⟨rfl, rfl, rfl, by decide +kernel, rfl, by decide +kernel, by decide +kernel⟩
def t_law_words (K : PySem.W.Frag) (P : Program) (w : World) (S : List SV → SV → Prop) : TS := tSeq (tIfS (tTest (tOp (xIn K false) (tOp (rIx K) (tVar 0) (tC (.int 0))) (tTup (tCons (tC (.str "keep")) (tCons (tC (.str "none")) (tCons (tC (.str "all")) (tNil))))))) (tRet (tLst (tCons (tOp (rIx K) (tVar 0) (tC (.int 0))) (tNil)))) (tNext)) (tSeq (tIfS (tTest (tOp (xIn K false) (tOp (rIx K) (tVar 0) (tC (.int 0))) (tTup (tCons (tC (.str "both")) (tCons (tC (.str "either")) (tNil)))))) (tRet (tOp (xAdd K) (tOp (xAdd K) (tLst (tCons (tOp (rIx K) (tVar 0) (tC (.int 0))) (tNil))) (tCall (spD S) [] E0 (tCons (tOp (rIx K) (tVar 0) (tC (.int 1))) (tNil)))) (tCall (spD S) [] E0 (tCons (tOp (rIx K) (tVar 0) (tC (.int 2))) (tNil))))) (tNext)) (tSeq (tAsg (tLst (tCons (tOp (rIx K) (tVar 0) (tC (.int 0))) (tNil))) (gName 1)) (tSeq (tIfS (tTest (tOp (rEqD K) (tOp (rIx K) (tVar 0) (tC (.int 0))) (tC (.str "move")))) (tDrop (tBM K "list" (rExtend) (tVar 1) (tCons (tLst (tCons (tCB (xStr) (tCons (tOp (rIx K) (tOp (rIx K) (tVar 0) (tC (.int 1))) (tC (.int 0))) (tNil))) (tCons (tCB (xStr) (tCons (tOp (rIx K) (tOp (rIx K) (tVar 0) (tC (.int 1))) (tC (.int 1))) (tNil))) (tNil)))) (tNil)))) (tSeq (tDrop (tBM K "list" (rAppend) (tVar 1) (tCons (tCB (xStr) (tCons (tCB (xLen K) (tCons (tOp (rIx K) (tVar 0) (tC (.int 1))) (tNil))) (tNil))) (tNil)))) (tFor (iTup K (tOp (rIx K) (tVar 0) (tC (.int 1)))) (gTup K 2 (gCons (gName 2) (gCons (gName 3) (gNil)))) (tDrop (tBM K "list" (rExtend) (tVar 1) (tCons (tLst (tCons (tCB (xStr) (tCons (tVar 2) (tNil))) (tCons (tCB (xStr) (tCons (tVar 3) (tNil))) (tNil)))) (tNil))))))) (tRet (tOp (xAdd K) (tVar 1) (tCall (spD S) [] E0 (tCons (tOp (rIx K) (tVar 0) (tC (.int 2))) (tNil))))))))
theorem step_law_words (T : Tx K mg) {S R : List SV → SV → Prop} {j : Nat} (hj : 1 ≤ j) (OS : Ok P w K mg base CX0 j d_law_words ["tree"] (spD S)) (len : ∀ xs z, R xs z → xs.length = 1)
    (run : ∀ xs z, R xs z → RunS (t_law_words K P w S) (xs.map some ++ List.replicate (4 - xs.length) none) (.rt z)) : Ok P w K mg base CX0 (j + 1) d_law_words ["tree"] (spD R) := by
  obtain ⟨fd, F⟩ := T.fn 76 d_law_words rfl
  exact ok_data (t := t_law_words K P w S) F sc_law_words (fun _ _ _ _ _ _ us hl => match us, hl with | [_], _ => rfl) len (by decide) (fun cdv A outer s H E hr => pss_cons (ps_if (pt_cmpR (o_in (units65 hr)) (pe_ix ix_seq (pv 0) (pe_int) (fun _ _ => rfl)) (pe_tup (pa_cons (pe_str) (pa_cons (pe_str) (pa_cons (pe_str) (pa_nil))))) rfl) (pss_one (ps_ret (pe_lst (pa_cons (pe_ix ix_seq (pv 0) (pe_int) (fun _ _ => rfl)) (pa_nil))))) (pss_nil)) (pss_cons (ps_if (pt_cmpR (o_in (units65 hr)) (pe_ix ix_seq (pv 0) (pe_int) (fun _ _ => rfl)) (pe_tup (pa_cons (pe_str) (pa_cons (pe_str) (pa_nil)))) rfl) (pss_one (ps_ret (pe_op o_add (pe_op o_add (pe_lst (pa_cons (pe_ix ix_seq (pv 0) (pe_int) (fun _ _ => rfl)) (pa_nil))) (pe_own OS (hr.mono (by first | decide | omega)) rfl (T.glo 48 rfl) pass0 (pa_cons (pe_ix ix_seq (pv 0) (pe_int) (fun _ _ => rfl)) (pa_nil)))) (pe_own OS (hr.mono (by first | decide | omega)) rfl (T.glo 48 rfl) pass0 (pa_cons (pe_ix ix_seq (pv 0) (pe_int) (fun _ _ => rfl)) (pa_nil)))))) (pss_nil)) (pss_cons (ps_set (i := 1) sc_law_words.nd rfl (by first | exact Or.inl rfl | exact Or.inr rfl) (pe_lst (pa_cons (pe_ix ix_seq (pv 0) (pe_int) (fun _ _ => rfl)) (pa_nil)))) (pss_cons (ps_if (pt_cmpR (op_eqD hr.units) (pe_ix ix_seq (pv 0) (pe_int) (fun _ _ => rfl)) (pe_str) (nomark _)) (pss_one (ps_expr (pe_bm PySem.F.plainAttrs_list PySem.F.slot_list_extend PySem.F.type_list_extend mt_extend (pv 1) (pa_cons (pe_lst (pa_cons (pe_callTy r_str rfl (T.free 74 rfl) boot_str (pa_cons (pe_ix ix_seq (pe_ix ix_seq (pv 0) (pe_int) (fun _ _ => rfl)) (pe_int) (fun _ _ => rfl)) (pa_nil))) (pa_cons (pe_callTy r_str rfl (T.free 74 rfl) boot_str (pa_cons (pe_ix ix_seq (pe_ix ix_seq (pv 0) (pe_int) (fun _ _ => rfl)) (pe_int) (fun _ _ => rfl)) (pa_nil))) (pa_nil)))) (pa_nil))))) (pss_cons (ps_expr (pe_bm PySem.F.plainAttrs_list PySem.F.slot_list_append PySem.F.type_list_append mt_append (pv 1) (pa_cons (pe_callTy r_str rfl (T.free 74 rfl) boot_str (pa_cons (pe_callB r_len rfl (T.free 63 rfl) boot_len (pa_cons (pe_ix ix_seq (pv 0) (pe_int) (fun _ _ => rfl)) (pa_nil))) (pa_nil))) (pa_nil)))) (pss_one (ps_for PassesOwn.never rfl (pi_tup (pe_ix ix_seq (pv 0) (pe_int) (fun _ _ => rfl))) (pg_tup rfl (pgs_cons (pg_name (i := 2) sc_law_words.nd rfl (by first | exact Or.inl rfl | exact Or.inr rfl)) (pgs_cons (pg_name (i := 3) sc_law_words.nd rfl (by first | exact Or.inl rfl | exact Or.inr rfl)) (pgs_nil)))) (pss_one (ps_expr (pe_bm PySem.F.plainAttrs_list PySem.F.slot_list_extend PySem.F.type_list_extend mt_extend (pv 1) (pa_cons (pe_lst (pa_cons (pe_callTy r_str rfl (T.free 74 rfl) boot_str (pa_cons (pv 2) (pa_nil))) (pa_cons (pe_callTy r_str rfl (T.free 74 rfl) boot_str (pa_cons (pv 3) (pa_nil))) (pa_nil)))) (pa_nil))))))))) (pss_one (ps_ret (pe_op o_add (pv 1) (pe_own OS (hr.mono (by first | decide | omega)) rfl (T.glo 48 rfl) pass0 (pa_cons (pe_ix ix_seq (pv 0) (pe_int) (fun _ _ => rfl)) (pa_nil)))))))))) (fun xs z h => .rt (run xs z h))
theorem no_law_words (T : Tx K mg) (j : Nat) : Ok P w K mg base CX0 j d_law_words ["tree"] (spD fun _ _ => False) := by
  obtain ⟨fd, F⟩ := T.fn 76 d_law_words rfl
  exact ok_no F (fun _ _ _ _ _ _ us hl => match us, hl with | [_], _ => rfl)

theorem run_law_words {S : List SV → SV → Prop} (t : Tree) (hs : smallT t = true) (hl : (wordsF t).length ≤ 1000) (hS : ∀ u ∈ subs t, S [.im (treeD u)] (.own ((wordsF u).map .str))) :
    RunS (t_law_words K P w S) ([.im (treeD t)].map some ++ List.replicate (4 - 1) none) (.rt (.own ((wordsF t).map .str))) := by
  have TG : EvS (tOp (rIx K) (tVar 0) (tC (.int 0))) ([.im (treeD t)].map some ++ List.replicate (4 - 1) none) (.im (.str (tagF t))) := es_tag rfl
  have I1 := es_inT (K := K) (l := ["keep", "none", "all"]) TG es_strs3 (tag_ok t) (by decide +kernel)
  have I2 := es_inT (K := K) (l := ["both", "either"]) TG es_strs2 (tag_ok t) (by decide +kernel)
  have two : ∀ (a b : Tree) (g : Str), treeD t = .tuple [.str g, treeD a, treeD b] → tagF t = g → wordsF t = ([g] ++ wordsF a) ++ wordsF b → S [.im (treeD a)] (.own ((wordsF a).map .str)) → S [.im (treeD b)] (.own ((wordsF b).map .str)) →
      decide (tagF t ∈ (["keep", "none", "all"] : List Str)) = false → decide (tagF t ∈ (["both", "either"] : List Str)) = true → RunS (t_law_words K P w S) ([.im (treeD t)].map some ++ List.replicate (4 - 1) none) (.rt (.own ((wordsF t).map .str))) := by
    intro a b g ed eg ew sa sb c1 c2
    rw [ew] at hl ⊢
    rw [List.length_append, List.length_append] at hl
    refine rs_ifNo (et_to c1 (et_test I1)) (rs_ifRt (et_to c2 (et_test I2)) (rs_to ?_ (rs_ret (es_op (es_op (es_lst (ds := [.str (tagF t)]) (ea_cons TG ea_nil)) (es_call (z := .own ((wordsF a).map .str)) (ea_cons (es_op (x := .im (treeD t)) (z := .im (treeD a)) (es_im rfl) es_int (by rw [ed]; exact s_ixT rfl)) ea_nil) sa) (s_addL rfl rfl ?_))
      (es_call (z := .own ((wordsF b).map .str)) (ea_cons (es_op (x := .im (treeD t)) (z := .im (treeD b)) (es_im rfl) es_int (by rw [ed]; exact s_ixT rfl)) ea_nil) sb) (s_addL rfl rfl ?_)))))
    · rw [eg, List.map_append, List.map_append] <;> rfl
    · rw [List.length_map]
      show 1 + _ ≤ _
      have : ([g] : List Str).length = 1 := rfl
      omega
    · rw [List.length_append, List.length_map, List.length_map]
      have : ([g] : List Str).length = 1 := rfl
      show 1 + _ + _ ≤ _
      omega
  have piece : ∀ (p0 : Cell) (ps : List Cell) (u : Tree) (g : Str), treeD t = .tuple [.str g, csD (p0 :: ps), treeD u] → tagF t = g → wordsF t = ([g, numT (p0 :: ps).length] ++ cellW (p0 :: ps)) ++ wordsF u → S [.im (treeD u)] (.own ((wordsF u).map .str)) → ps.length ≤ 2 → (p0 :: ps).all smallC = true →
      decide (tagF t ∈ (["keep", "none", "all"] : List Str)) = false → decide (tagF t ∈ (["both", "either"] : List Str)) = false → decide (tagF t = "move") = false → RunS (t_law_words K P w S) ([.im (treeD t)].map some ++ List.replicate (4 - 1) none) (.rt (.own ((wordsF t).map .str))) := by
    intro p0 ps u g ed eg ew su lp sm c1 c2 c3
    rw [ew] at hl ⊢
    rw [List.length_append] at hl
    have D1 : ∀ {ρ : Rho} (h : ρ[0]? = some (some (.im (treeD t)))), EvS (tOp (rIx K) (tVar 0) (tC (.int 1))) ρ (.im (csD (p0 :: ps))) := fun h => es_op (x := .im (treeD t)) (z := .im (csD (p0 :: ps))) (es_im h) es_int (by rw [ed]; exact s_ixT rfl)
    have D2 : ∀ {ρ : Rho} (h : ρ[0]? = some (some (.im (treeD t)))), EvS (tOp (rIx K) (tVar 0) (tC (.int 2))) ρ (.im (treeD u)) := fun h => es_op (x := .im (treeD t)) (z := .im (treeD u)) (es_im h) es_int (by rw [ed]; exact s_ixT rfl)
    have lo : ∀ c ∈ p0 :: ps, c.1.natAbs < 10 ^ 14 ∧ c.2.natAbs < 10 ^ 14 := fun c hc => by
      have := (List.all_eq_true.mp sm) c hc
      unfold smallC at this
      rw [Bool.and_eq_true, decide_eq_true_iff, decide_eq_true_iff] at this
      omega
    refine rs_ifNo (et_to c1 (et_test I1)) (rs_ifNo (et_to c2 (et_test I2)) (rs_seq (rs_asg (es_lst (ds := [.str g]) (ea_cons (es_to (by rw [eg]) TG) ea_nil))) (rs_seq (ρ1 := [some (.im (treeD t)), some (.own (([g, numT (p0 :: ps).length] ++ cellW (p0 :: ps)).map .str)), none, none])
      (rs_ifF (et_to c3 (et_test (es_isT (es_tag rfl) (tag_ok t) (by decide +kernel)))) (rs_seq (ρ1 := [some (.im (treeD t)), some (.own (([g, numT (p0 :: ps).length] ++ cellW []).map .str)), none, none]) (rs_append (ds := [.str g]) (d := .str (numT (p0 :: ps).length)) rfl (es_cb (ea_cons (es_cb (ea_cons (D1 rfl) ea_nil) (c_lenT (ds := (p0 :: ps).map cD))) ea_nil) (by rw [List.length_map]; exact c_str (small_log (by
          show (p0 :: ps).length < _
          rw [List.length_cons]; omega)))) (by show 1 < 100000; decide))
        (rs_forT (ds := (p0 :: ps).map cD) (D1 rfl) (for_enc (enc := cD) (l := p0 :: ps) (f := fun p => [some (.im (treeD t)), some (.own (([g, numT (p0 :: ps).length] ++ cellW p).map .str)), none, none])
          fun p a r e => turn_pair (d1 := .int a.1) (d2 := .int a.2) (rs_fg [2, 3] (rs_extend (x := .own [.str (numT a.1), .str (numT a.2)]) (es := [.str (numT a.1), .str (numT a.2)]) rfl (es_lst (ds := [.str (numT a.1), .str (numT a.2)]) (ea_cons (es_cb (ea_cons (es_im rfl) ea_nil) (c_str (small_log (lo a (by rw [e]; simp)).1))) (ea_cons (es_cb (ea_cons (es_im rfl) ea_nil) (c_str (small_log (lo a (by rw [e]; simp)).2))) ea_nil))) rfl ?_) ?_)))))
      (rs_to ?_ (rs_ret (es_op (es_var (x := .own (([g, numT (p0 :: ps).length] ++ cellW (p0 :: ps)).map .str)) rfl rfl) (es_call (z := .own ((wordsF u).map .str)) (ea_cons (D2 rfl) ea_nil) su) (s_addL rfl rfl ?_)))))))
    · rw [List.length_map, List.length_append, cellW_len]
      have : p.length ≤ (p0 :: ps).length := by rw [e, List.length_append]; omega
      rw [List.length_cons] at this
      show 2 + _ + 2 < _
      omega
    · have z : ([g, numT (p0 :: ps).length] ++ cellW (p ++ [a])).map PyData.str = ([g, numT (p0 :: ps).length] ++ cellW p).map PyData.str ++ [PyData.str (numT a.1), PyData.str (numT a.2)] := by
        rw [cellW_more, ← List.append_assoc]
        exact List.map_append
      rw [z]
      rfl
    · rw [List.map_append (l₁ := [g, numT (p0 :: ps).length] ++ cellW (p0 :: ps))]
    · rw [List.length_map, List.length_map]
      omega
  cases t with
  | none => exact rs_ifRt (et_to (decide_eq_true (by decide)) (et_test I1)) (rs_ret (es_lst (ds := [.str "none"]) (ea_cons TG ea_nil)))
  | all => exact rs_ifRt (et_to (decide_eq_true (by decide)) (et_test I1)) (rs_ret (es_lst (ds := [.str "all"]) (ea_cons TG ea_nil)))
  | keep => exact rs_ifRt (et_to (decide_eq_true (by decide)) (et_test I1)) (rs_ret (es_lst (ds := [.str "keep"]) (ea_cons TG ea_nil)))
  | both a b => exact two a b "both" rfl rfl rfl (hS a (by simp [subs])) (hS b (by simp [subs])) (by show decide (("both" : Str) ∈ (["keep", "none", "all"] : List Str)) = false; decide) (by show decide (("both" : Str) ∈ (["both", "either"] : List Str)) = true; decide)
  | either a b => exact two a b "either" rfl rfl rfl (hS a (by simp [subs])) (hS b (by simp [subs])) (by show decide (("either" : Str) ∈ (["keep", "none", "all"] : List Str)) = false; decide) (by show decide (("either" : Str) ∈ (["both", "either"] : List Str)) = true; decide)
  | eat p0 ps u =>
    unfold smallT at hs
    rw [Bool.and_eq_true, Bool.and_eq_true, decide_eq_true_iff] at hs
    exact piece p0 ps u "eat" rfl rfl rfl (hS u (by simp [subs])) hs.1.1 hs.1.2 (by show decide (("eat" : Str) ∈ (["keep", "none", "all"] : List Str)) = false; decide) (by show decide (("eat" : Str) ∈ (["both", "either"] : List Str)) = false; decide) (by show decide (("eat" : Str) = "move") = false; decide)
  | grow p0 ps u =>
    unfold smallT at hs
    rw [Bool.and_eq_true, Bool.and_eq_true, decide_eq_true_iff] at hs
    exact piece p0 ps u "grow" rfl rfl rfl (hS u (by simp [subs])) hs.1.1 hs.1.2 (by show decide (("grow" : Str) ∈ (["keep", "none", "all"] : List Str)) = false; decide) (by show decide (("grow" : Str) ∈ (["both", "either"] : List Str)) = false; decide) (by show decide (("grow" : Str) = "move") = false; decide)
  | move d u =>
    unfold smallT at hs
    rw [Bool.and_eq_true] at hs
    have hd := hs.1
    unfold smallC at hd
    rw [Bool.and_eq_true, decide_eq_true_iff, decide_eq_true_iff] at hd
    have ew : wordsF (.move d u) = [("move" : Str), numT d.1, numT d.2] ++ wordsF u := rfl
    rw [ew] at hl ⊢
    rw [List.length_append] at hl
    have D1 : ∀ {ρ : Rho} (h : ρ[0]? = some (some (.im (treeD (.move d u))))), EvS (tOp (rIx K) (tVar 0) (tC (.int 1))) ρ (.im (cD d)) := fun h => es_op (z := .im (cD d)) (es_im h) es_int (s_ixT rfl)
    refine rs_ifNo (et_to (by show decide (("move" : Str) ∈ (["keep", "none", "all"] : List Str)) = false; decide) (et_test I1)) (rs_ifNo (et_to (by show decide (("move" : Str) ∈ (["both", "either"] : List Str)) = false; decide) (et_test I2)) (rs_seq (rs_asg (es_lst (ds := [.str "move"]) (ea_cons TG ea_nil))) (rs_seq (ρ1 := [some (.im (treeD (.move d u))), some (.own (([("move" : Str), numT d.1, numT d.2]).map .str)), none, none])
      (rs_ifT (et_to (by show decide (("move" : Str) = "move") = true; decide) (et_test (es_isT (es_tag (t := .move d u) rfl) (tag_ok _) (by decide +kernel)))) (rs_extend (ds := [.str "move"]) (x := .own [.str (numT d.1), .str (numT d.2)]) (es := [.str (numT d.1), .str (numT d.2)]) rfl (es_lst (ds := [.str (numT d.1), .str (numT d.2)]) (ea_cons (es_cb (ea_cons (es_op (D1 rfl) es_int (s_ixT rfl)) ea_nil) (c_str (small_log (by omega)))) (ea_cons (es_cb (ea_cons (es_op (D1 rfl) es_int (s_ixT rfl)) ea_nil) (c_str (small_log (by omega)))) ea_nil))) rfl (by show 1 + 2 < _; decide)))
      (rs_to ?_ (rs_ret (es_op (es_var (x := .own ([("move" : Str), numT d.1, numT d.2].map .str)) rfl rfl) (es_call (z := .own ((wordsF u).map .str)) (ea_cons (es_op (z := .im (treeD u)) (es_im (d := treeD (.move d u)) rfl) es_int (s_ixT rfl)) ea_nil) (hS u (by simp [subs]))) (s_addL rfl rfl ?_)))))))
    · rw [List.map_append]
    · rw [List.length_map, List.length_map]
      omega
theorem sub_len {t u : Tree} (h : u ∈ subs t) : (wordsF u).length ≤ (wordsF t).length := by
  cases t <;> simp only [subs, List.mem_cons, List.not_mem_nil, or_false] at h <;> (try rcases h with h | h) <;> (try subst h) <;> (try cases h) <;> simp only [wordsF, List.length_append] <;> omega
theorem sub_dep {t u : Tree} (h : u ∈ subs t) : dep u + 1 ≤ dep t := by
  cases t <;> simp only [subs, List.mem_cons, List.not_mem_nil, or_false] at h <;> (try rcases h with h | h) <;> (try subst h) <;> (try cases h) <;> simp only [dep] <;> omega
theorem sub_small {t u : Tree} (h : u ∈ subs t) (hs : smallT t = true) : smallT u = true := by
  cases t <;> simp only [subs, List.mem_cons, List.not_mem_nil, or_false] at h <;> simp only [smallT, Bool.and_eq_true] at hs
  · subst h; exact hs.2
  · subst h; exact hs.2
  · subst h; exact hs.2
  · rcases h with rfl | rfl
    · exact hs.1
    · exact hs.2
  · rcases h with rfl | rfl
    · exact hs.1
    · exact hs.2
theorem O_law_words (T : Tx K mg) : ∀ k : Nat, Ok P w K mg base CX0 (k + 2) d_law_words ["tree"] (spD (R_law_words k))
  | 0 => step_law_words T (by decide) (no_law_words T 1) (len_law_words 0) fun xs z h => by
    obtain ⟨t, rfl, hd, hs, hl, rfl⟩ := h
    exact run_law_words t hs hl fun u hu => absurd (sub_dep hu) (by omega)
  | k + 1 => step_law_words T (by omega) (O_law_words T k) (len_law_words (k + 1)) fun xs z h => by
    obtain ⟨t, rfl, hd, hs, hl, rfl⟩ := h
    exact run_law_words t hs hl fun u hu => ⟨u, rfl, by have := sub_dep hu; omega, sub_small hu hs, Nat.le_trans (sub_len hu) hl, rfl⟩
end K91
/-! ==== K9 -/
set_option maxRecDepth 100000
set_option maxHeartbeats 4000000
namespace K91
open PySem PySem.Spec PyProof.Rows L2 SG DL
variable {P : Program} {w : World} {K : PySem.W.Frag} {mg : Str → Option Value} {base : Heap}
def madeF : Tree → Shp → Shp
  | .keep, s => s
  | .none, _ => ([], false)
  | .all, _ => ([], true)
  | .both a b, s => metF (madeF a s) (madeF b s) true
  | .either a b, s => metF (madeF a s) (madeF b s) false
  | .move d t, s => mvF (madeF t s) d
  | .grow p0 ps t, s => (if (madeF t s).2 = true then shF (madeF t s).1 p0 (p0 :: ps) (-1) else swF (madeF t s).1 (p0 :: ps) 1, (madeF t s).2)
  | .eat p0 ps t, s => (if (madeF t s).2 = true then swF (madeF t s).1 (p0 :: ps) (-1) else shF (madeF t s).1 p0 (p0 :: ps) 1, (madeF t s).2)
def madeOk : Tree → Shp → Prop
  | .both a b, s => madeOk a s ∧ madeOk b s ∧ (madeF a s).1.length + (madeF b s).1.length ≤ 300
  | .either a b, s => madeOk a s ∧ madeOk b s ∧ (madeF a s).1.length + (madeF b s).1.length ≤ 300
  | .move _ t, s => madeOk t s ∧ (madeF t s).1.length ≤ 300
  | .grow p0 ps t, s => madeOk t s ∧ (madeF t s).1.length * (p0 :: ps).length ≤ 300 ∧ ps.length < 200
  | .eat p0 ps t, s => madeOk t s ∧ (madeF t s).1.length * (p0 :: ps).length ≤ 300 ∧ ps.length < 200
  | _, _ => True
def R_law_made (k : Nat) : List SV → SV → Prop := fun xs z => ∃ (t : Tree) (s : Shp), xs = [.im (treeD t), .im (shD s)] ∧ dep t ≤ k ∧ madeOk t s ∧ z = .im (shD (madeF t s))
theorem len_law_made (k : Nat) : ∀ xs z, R_law_made k xs z → xs.length = 2 := by
  rintro xs z ⟨_, _, rfl, _⟩
  rfl
theorem sub_ok {t u : Tree} {s : Shp} (h : u ∈ subs t) (hs : madeOk t s) : madeOk u s := by
  cases t <;> simp only [subs, List.mem_cons, List.not_mem_nil, or_false] at h
  · subst h; exact hs.1
  · subst h; exact hs.1
  · subst h; exact hs.1
  · rcases h with rfl | rfl
    · exact hs.1
    · exact hs.2.1
  · rcases h with rfl | rfl
    · exact hs.1
    · exact hs.2.1
theorem es_pick {ρ : Rho} {ta tb tm : TE} {x y : List Cell} {m : Bool} (ha : EvS ta ρ (.im (csD x))) (hb : EvS tb ρ (.im (csD y))) (hm : EvS tm ρ (.im (.bool m))) : EvS (tOp (rIx K) (tLst (tCons ta (tCons tb tNil))) (tCB xInt (tCons tm tNil))) ρ (.im (csD (if m = true then y else x))) :=
  es_to (by cases m <;> rfl) (es_op (es_lst (ds := [csD x, csD y]) (ea_cons ha (ea_cons hb ea_nil))) (es_cb (ea_cons hm ea_nil) c_intB) (s_ixL rfl at_two))

/-! ### _law_made -/
theorem sc_law_made : FnScope ["tree", "shape", "cells", "rest", "cell"] ["tree", "shape"] (defScope s_law_made) := ⟨rfl, rfl, rfl, by decide +kernel, rfl, by decide +kernel, by decide +kernel⟩
def t_law_made (K : PySem.W.Frag) (P : Program) (w : World) (S : List SV → SV → Prop) : TS := tSeq (tIfS (tTest (tOp (rEqD K) (tOp (rIx K) (tVar 0) (tC (.int 0))) (tC (.str "keep")))) (tRet (tVar 1)) (tNext)) (tSeq (tIfS (tTest (tOp (xIn K false) (tOp (rIx K) (tVar 0) (tC (.int 0))) (tTup (tCons (tC (.str "none")) (tCons (tC (.str "all")) (tNil)))))) (tRet (tTup (tCons (tTup (tNil)) (tCons (tOp (rEqD K) (tOp (rIx K) (tVar 0) (tC (.int 0))) (tC (.str "all"))) (tNil))))) (tNext)) (tSeq (tIfS (tTest (tOp (xIn K false) (tOp (rIx K) (tVar 0) (tC (.int 0))) (tTup (tCons (tC (.str "both")) (tCons (tC (.str "either")) (tNil)))))) (tRet (tCall (spD R_law_met) [] E0 (tCons (tCall (spD S) [] E0 (tCons (tOp (rIx K) (tVar 0) (tC (.int 1))) (tCons (tVar 1) (tNil)))) (tCons (tCall (spD S) [] E0 (tCons (tOp (rIx K) (tVar 0) (tC (.int 2))) (tCons (tVar 1) (tNil)))) (tCons (tOp (rEqD K) (tOp (rIx K) (tVar 0) (tC (.int 0))) (tC (.str "both"))) (tNil)))))) (tNext)) (tSeq (tAsg (tCall (spD S) [] E0 (tCons (tOp (rIx K) (tVar 0) (tC (.int 2))) (tCons (tVar 1) (tNil)))) (gTup K 2 (gCons (gName 2) (gCons (gName 3) (gNil))))) (tSeq (tIfS (tTest (tOp (rEqD K) (tOp (rIx K) (tVar 0) (tC (.int 0))) (tC (.str "move")))) (tRet (tTup (tCons (tCB (xTuple K) (tCons (tLc (iTup K (tVar 2)) (gName 4) (tYes) (tTup (tCons (tOp (xAdd K) (tOp (rIx K) (tVar 4) (tC (.int 0))) (tOp (rIx K) (tOp (rIx K) (tVar 0) (tC (.int 1))) (tC (.int 0)))) (tCons (tOp (xAdd K) (tOp (rIx K) (tVar 4) (tC (.int 1))) (tOp (rIx K) (tOp (rIx K) (tVar 0) (tC (.int 1))) (tC (.int 1)))) (tNil)))) [4]) (tNil))) (tCons (tVar 3) (tNil))))) (tNext)) (tSeq (tIfS (tTest (tOp (rEqD K) (tOp (rIx K) (tVar 0) (tC (.int 0))) (tC (.str "grow")))) (tRet (tTup (tCons (tOp (rIx K) (tLst (tCons (tCall (spD R_law_swelled) [] E0 (tCons (tVar 2) (tCons (tOp (rIx K) (tVar 0) (tC (.int 1))) (tCons (tC (.int 1)) (tNil))))) (tCons (tCall (spD R_law_shrunk) [] E0 (tCons (tVar 2) (tCons (tOp (rIx K) (tVar 0) (tC (.int 1))) (tCons (tUn (rU fun i => .int (-i)) (tC (.int 1))) (tNil))))) (tNil)))) (tCB (xInt) (tCons (tVar 3) (tNil)))) (tCons (tVar 3) (tNil))))) (tNext)) (tRet (tTup (tCons (tOp (rIx K) (tLst (tCons (tCall (spD R_law_shrunk) [] E0 (tCons (tVar 2) (tCons (tOp (rIx K) (tVar 0) (tC (.int 1))) (tCons (tC (.int 1)) (tNil))))) (tCons (tCall (spD R_law_swelled) [] E0 (tCons (tVar 2) (tCons (tOp (rIx K) (tVar 0) (tC (.int 1))) (tCons (tUn (rU fun i => .int (-i)) (tC (.int 1))) (tNil))))) (tNil)))) (tCB (xInt) (tCons (tVar 3) (tNil)))) (tCons (tVar 3) (tNil))))))))))
theorem step_law_made (T : Tx K mg) {S R : List SV → SV → Prop} {j : Nat} (hj : 1 ≤ j) (OS : Ok P w K mg base CX0 j d_law_made ["tree", "shape"] (spD S)) (len : ∀ xs z, R xs z → xs.length = 2)
    (run : ∀ xs z, R xs z → RunS (t_law_made K P w S) (xs.map some ++ List.replicate (5 - xs.length) none) (.rt z)) : Ok P w K mg base CX0 (j + 1) d_law_made ["tree", "shape"] (spD R) := by
  obtain ⟨fd, F⟩ := T.fn 82 d_law_made rfl
  exact ok_data (t := t_law_made K P w S) F sc_law_made (fun _ _ _ _ _ _ us hl => match us, hl with | [_, _], _ => rfl) len (by decide) (fun cdv A outer s H E hr => pss_cons (ps_if (pt_cmpR (op_eqD hr.units) (pe_ix ix_seq (pv 0) (pe_int) (fun _ _ => rfl)) (pe_str) (nomark _)) (pss_one (ps_ret (pv 1))) (pss_nil)) (pss_cons (ps_if (pt_cmpR (o_in (units65 hr)) (pe_ix ix_seq (pv 0) (pe_int) (fun _ _ => rfl)) (pe_tup (pa_cons (pe_str) (pa_cons (pe_str) (pa_nil)))) rfl) (pss_one (ps_ret (pe_tup (pa_cons (pe_tup (pa_nil)) (pa_cons (pe_cmpR (op_eqD hr.units) (pe_ix ix_seq (pv 0) (pe_int) (fun _ _ => rfl)) (pe_str) (nomark _)) (pa_nil)))))) (pss_nil)) (pss_cons (ps_if (pt_cmpR (o_in (units65 hr)) (pe_ix ix_seq (pv 0) (pe_int) (fun _ _ => rfl)) (pe_tup (pa_cons (pe_str) (pa_cons (pe_str) (pa_nil)))) rfl) (pss_one (ps_ret (pe_own (O_law_met T) (hr.mono (by first | decide | omega)) rfl (T.glo 53 rfl) pass0 (pa_cons (pe_own OS (hr.mono (by first | decide | omega)) rfl (T.glo 54 rfl) pass0 (pa_cons (pe_ix ix_seq (pv 0) (pe_int) (fun _ _ => rfl)) (pa_cons (pv 1) (pa_nil)))) (pa_cons (pe_own OS (hr.mono (by first | decide | omega)) rfl (T.glo 54 rfl) pass0 (pa_cons (pe_ix ix_seq (pv 0) (pe_int) (fun _ _ => rfl)) (pa_cons (pv 1) (pa_nil)))) (pa_cons (pe_cmpR (op_eqD hr.units) (pe_ix ix_seq (pv 0) (pe_int) (fun _ _ => rfl)) (pe_str) (nomark _)) (pa_nil))))))) (pss_nil)) (pss_cons (ps_asg (pe_own OS (hr.mono (by first | decide | omega)) rfl (T.glo 54 rfl) pass0 (pa_cons (pe_ix ix_seq (pv 0) (pe_int) (fun _ _ => rfl)) (pa_cons (pv 1) (pa_nil)))) (pg_tup rfl (pgs_cons (pg_name (i := 2) sc_law_made.nd rfl (by first | exact Or.inl rfl | exact Or.inr rfl)) (pgs_cons (pg_name (i := 3) sc_law_made.nd rfl (by first | exact Or.inl rfl | exact Or.inr rfl)) (pgs_nil))))) (pss_cons (ps_if (pt_cmpR (op_eqD hr.units) (pe_ix ix_seq (pv 0) (pe_int) (fun _ _ => rfl)) (pe_str) (nomark _)) (pss_one (ps_ret (pe_tup (pa_cons (pe_callTy r_tuple rfl (T.free 67 rfl) boot_tuple (pa_cons (pe_lc (own := [("cell", 4)]) (g := gName 4) (tt := tYes) rfl sc_law_made.nd (pi_tup (pv 2)) (blkOk_by (N := ["tree", "shape", "cells", "rest", "cell"]) (sc := defScope s_law_made) (by decide +kernel)) (fun _ _ _ _ _ => pg_name (i := 4) sc_law_made.nd rfl (by first | exact Or.inl rfl | exact Or.inr rfl)) (fun _ _ _ _ _ => pts_nil) (fun _ _ _ _ _ => pe_tup (pa_cons (pe_op o_add (pe_ix ix_seq (pv 4) (pe_int) (fun _ _ => rfl)) (pe_ix ix_seq (pe_ix ix_seq (pv 0) (pe_int) (fun _ _ => rfl)) (pe_int) (fun _ _ => rfl))) (pa_cons (pe_op o_add (pe_ix ix_seq (pv 4) (pe_int) (fun _ _ => rfl)) (pe_ix ix_seq (pe_ix ix_seq (pv 0) (pe_int) (fun _ _ => rfl)) (pe_int) (fun _ _ => rfl))) (pa_nil))))) (pa_nil))) (pa_cons (pv 3) (pa_nil)))))) (pss_nil)) (pss_cons (ps_if (pt_cmpR (op_eqD hr.units) (pe_ix ix_seq (pv 0) (pe_int) (fun _ _ => rfl)) (pe_str) (nomark _)) (pss_one (ps_ret (pe_tup (pa_cons (pe_ix ix_seq (pe_lst (pa_cons (pe_own (O_law_swelled T) (hr.mono (by first | decide | omega)) rfl (T.glo 51 rfl) pass0 (pa_cons (pv 2) (pa_cons (pe_ix ix_seq (pv 0) (pe_int) (fun _ _ => rfl)) (pa_cons (pe_int) (pa_nil))))) (pa_cons (pe_own (O_law_shrunk T) (hr.mono (by first | decide | omega)) rfl (T.glo 52 rfl) pass0 (pa_cons (pv 2) (pa_cons (pe_ix ix_seq (pv 0) (pe_int) (fun _ _ => rfl)) (pa_cons (pe_un un_neg (pe_int)) (pa_nil))))) (pa_nil)))) (pe_callTy r_int rfl (T.free 75 rfl) boot_int (pa_cons (pv 3) (pa_nil))) (fun _ _ => rfl)) (pa_cons (pv 3) (pa_nil)))))) (pss_nil)) (pss_one (ps_ret (pe_tup (pa_cons (pe_ix ix_seq (pe_lst (pa_cons (pe_own (O_law_shrunk T) (hr.mono (by first | decide | omega)) rfl (T.glo 52 rfl) pass0 (pa_cons (pv 2) (pa_cons (pe_ix ix_seq (pv 0) (pe_int) (fun _ _ => rfl)) (pa_cons (pe_int) (pa_nil))))) (pa_cons (pe_own (O_law_swelled T) (hr.mono (by first | decide | omega)) rfl (T.glo 51 rfl) pass0 (pa_cons (pv 2) (pa_cons (pe_ix ix_seq (pv 0) (pe_int) (fun _ _ => rfl)) (pa_cons (pe_un un_neg (pe_int)) (pa_nil))))) (pa_nil)))) (pe_callTy r_int rfl (T.free 75 rfl) boot_int (pa_cons (pv 3) (pa_nil))) (fun _ _ => rfl)) (pa_cons (pv 3) (pa_nil)))))))))))) (fun xs z h => .rt (run xs z h))
theorem no_law_made (T : Tx K mg) (j : Nat) : Ok P w K mg base CX0 j d_law_made ["tree", "shape"] (spD fun _ _ => False) := by
  obtain ⟨fd, F⟩ := T.fn 82 d_law_made rfl
  exact ok_no F (fun _ _ _ _ _ _ us hl => match us, hl with | [_, _], _ => rfl)

theorem run_law_made {S : List SV → SV → Prop} (t : Tree) (s : Shp) (ho : madeOk t s) (hS : ∀ u ∈ subs t, S [.im (treeD u), .im (shD s)] (.im (shD (madeF u s)))) :
    RunS (t_law_made K P w S) ([.im (treeD t), .im (shD s)].map some ++ List.replicate (5 - 2) none) (.rt (.im (shD (madeF t s)))) := by
  have TG : EvS (tOp (rIx K) (tVar 0) (tC (.int 0))) ([.im (treeD t), .im (shD s)].map some ++ List.replicate (5 - 2) none) (.im (.str (tagF t))) := es_tag rfl
  have I1 := es_inT (K := K) (l := ["none", "all"]) TG es_strs2 (tag_ok t) (by decide +kernel)
  have I2 := es_inT (K := K) (l := ["both", "either"]) TG es_strs2 (tag_ok t) (by decide +kernel)
  have two : ∀ (a b : Tree) (g : Str) (m : Bool), treeD t = .tuple [.str g, treeD a, treeD b] → madeF t s = metF (madeF a s) (madeF b s) m → (madeF a s).1.length + (madeF b s).1.length ≤ 300 → S [.im (treeD a), .im (shD s)] (.im (shD (madeF a s))) → S [.im (treeD b), .im (shD s)] (.im (shD (madeF b s))) →
      decide (tagF t = "keep") = false → decide (tagF t ∈ (["none", "all"] : List Str)) = false → decide (tagF t ∈ (["both", "either"] : List Str)) = true → decide (tagF t = "both") = m → RunS (t_law_made K P w S) ([.im (treeD t), .im (shD s)].map some ++ List.replicate (5 - 2) none) (.rt (.im (shD (madeF t s)))) := by
    intro a b g m ed em hl sa sb c0 c1 c2 c3
    rw [em]
    exact rs_ifNo (et_to c0 (et_test (es_isT TG (tag_ok _) (by decide +kernel)))) (rs_ifNo (et_to c1 (et_test I1)) (rs_ifRt (et_to c2 (et_test I2)) (rs_ret (es_call (z := .im (shD (metF (madeF a s) (madeF b s) m))) (ea_cons
      (es_call (z := .im (shD (madeF a s))) (ea_cons (es_op (x := .im (treeD t)) (z := .im (treeD a)) (es_im rfl) es_int (by rw [ed]; exact s_ixT rfl)) (ea_cons (es_im rfl) ea_nil)) sa) (ea_cons
      (es_call (z := .im (shD (madeF b s))) (ea_cons (es_op (x := .im (treeD t)) (z := .im (treeD b)) (es_im rfl) es_int (by rw [ed]; exact s_ixT rfl)) (ea_cons (es_im rfl) ea_nil)) sb) (ea_cons
      (es_to (by rw [c3]) (es_isT TG (tag_ok _) (by decide +kernel))) ea_nil))) ⟨_, _, m, rfl, hl, rfl⟩))))
  have IN : ∀ (u : Tree) (g : Str) (x : PyData), treeD t = .tuple [.str g, x, treeD u] → decide (tagF t = "keep") = false → decide (tagF t ∈ (["none", "all"] : List Str)) = false → decide (tagF t ∈ (["both", "either"] : List Str)) = false → S [.im (treeD u), .im (shD s)] (.im (shD (madeF u s))) → ∀ {v : TS} {o : Out},
      RunS v [some (.im (treeD t)), some (.im (shD s)), some (.im (csD (madeF u s).1)), some (.im (.bool (madeF u s).2)), none] o → RunS (tSeq (tIfS (tTest (tOp (rEqD K) (tOp (rIx K) (tVar 0) (tC (.int 0))) (tC (.str "keep")))) (tRet (tVar 1)) tNext)
        (tSeq (tIfS (tTest (tOp (xIn K false) (tOp (rIx K) (tVar 0) (tC (.int 0))) (tTup (tCons (tC (.str "none")) (tCons (tC (.str "all")) tNil))))) (tRet (tTup (tCons (tTup tNil) (tCons (tOp (rEqD K) (tOp (rIx K) (tVar 0) (tC (.int 0))) (tC (.str "all"))) tNil)))) tNext)
        (tSeq (tIfS (tTest (tOp (xIn K false) (tOp (rIx K) (tVar 0) (tC (.int 0))) (tTup (tCons (tC (.str "both")) (tCons (tC (.str "either")) tNil))))) (tRet (tCall (spD R_law_met) [] E0 (tCons (tCall (spD S) [] E0 (tCons (tOp (rIx K) (tVar 0) (tC (.int 1))) (tCons (tVar 1) tNil))) (tCons (tCall (spD S) [] E0 (tCons (tOp (rIx K) (tVar 0) (tC (.int 2))) (tCons (tVar 1) tNil))) (tCons (tOp (rEqD K) (tOp (rIx K) (tVar 0) (tC (.int 0))) (tC (.str "both"))) tNil))))) tNext)
        (tSeq (tAsg (tCall (spD S) [] E0 (tCons (tOp (rIx K) (tVar 0) (tC (.int 2))) (tCons (tVar 1) tNil))) (gTup K 2 (gCons (gName 2) (gCons (gName 3) gNil)))) v)))) ([.im (treeD t), .im (shD s)].map some ++ List.replicate (5 - 2) none) o := by
    intro u g x ed c0 c1 c2 su v o hv
    exact rs_ifNo (et_to c0 (et_test (es_isT TG (tag_ok _) (by decide +kernel)))) (rs_ifNo (et_to c1 (et_test I1)) (rs_ifNo (et_to c2 (et_test I2)) (rs_seq (rs_asg2 (d1 := csD (madeF u s).1) (d2 := .bool (madeF u s).2) (es_call (z := .im (shD (madeF u s))) (ea_cons (es_op (x := .im (treeD t)) (z := .im (treeD u)) (es_im rfl) es_int (by rw [ed]; exact s_ixT rfl)) (ea_cons (es_im rfl) ea_nil)) su)) hv)))
  cases t with
  | keep => exact rs_ifRt (et_to (by show decide (("keep" : Str) = "keep") = true; decide) (et_test (es_isT TG (tag_ok _) (by decide +kernel)))) (rs_ret (es_im rfl))
  | none => exact rs_ifNo (et_to (by show decide (("none" : Str) = "keep") = false; decide) (et_test (es_isT TG (tag_ok _) (by decide +kernel)))) (rs_ifRt (et_to (by show decide (("none" : Str) ∈ (["none", "all"] : List Str)) = true; decide) (et_test I1)) (rs_ret (es_tup (ds := [.tuple [], .bool false]) (ea_cons (es_tup (ds := []) ea_nil) (ea_cons (es_isT TG (tag_ok _) (by decide +kernel)) ea_nil)))))
  | all => exact rs_ifNo (et_to (by show decide (("all" : Str) = "keep") = false; decide) (et_test (es_isT TG (tag_ok _) (by decide +kernel)))) (rs_ifRt (et_to (by show decide (("all" : Str) ∈ (["none", "all"] : List Str)) = true; decide) (et_test I1)) (rs_ret (es_tup (ds := [.tuple [], .bool true]) (ea_cons (es_tup (ds := []) ea_nil) (ea_cons (es_isT TG (tag_ok _) (by decide +kernel)) ea_nil)))))
  | both a b => exact two a b "both" true rfl rfl ho.2.2 (hS a (by simp [subs])) (hS b (by simp [subs])) (by show decide (("both" : Str) = "keep") = false; decide) (by show decide (("both" : Str) ∈ (["none", "all"] : List Str)) = false; decide) (by show decide (("both" : Str) ∈ (["both", "either"] : List Str)) = true; decide) (by show decide (("both" : Str) = "both") = true; decide)
  | either a b => exact two a b "either" false rfl rfl ho.2.2 (hS a (by simp [subs])) (hS b (by simp [subs])) (by show decide (("either" : Str) = "keep") = false; decide) (by show decide (("either" : Str) ∈ (["none", "all"] : List Str)) = false; decide) (by show decide (("either" : Str) ∈ (["both", "either"] : List Str)) = true; decide) (by show decide (("either" : Str) = "both") = false; decide)
  | move d u =>
    exact IN u "move" (cD d) rfl (by show decide (("move" : Str) = "keep") = false; decide) (by show decide (("move" : Str) ∈ (["none", "all"] : List Str)) = false; decide) (by show decide (("move" : Str) ∈ (["both", "either"] : List Str)) = false; decide) (hS u (by simp [subs]))
      (rs_ifRt (et_to (by show decide (("move" : Str) = "move") = true; decide) (et_test (es_isT (es_tag (t := .move d u) rfl) (tag_ok _) (by decide +kernel)))) (rs_ret (es_tup (ds := [csD ((madeF u s).1.map fun c => mvC c d), .bool (madeF u s).2]) (ea_cons (es_to (congrArg SV.im (map_csD (madeF u s).1 _)) (es_cb (ea_cons (es_mapT (enc := cD) (l := (madeF u s).1) (h := fun c => cD (mvC c d)) (es_im rfl) (fun c _ => ⟨_, .name 4 _,
        es_tup (ds := [.int (c.1 + d.1), .int (c.2 + d.2)]) (ea_cons (es_op (es_op (es_im rfl) es_int (s_ixT rfl)) (es_op (es_op (x := .im (treeD (.move d u))) (z := .im (cD d)) (es_im rfl) es_int (s_ixT rfl)) es_int (s_ixT rfl)) s_add) (ea_cons (es_op (es_op (es_im rfl) es_int (s_ixT rfl)) (es_op (es_op (x := .im (treeD (.move d u))) (z := .im (cD d)) (es_im rfl) es_int (s_ixT rfl)) es_int (s_ixT rfl)) s_add) ea_nil))⟩) (by have := ho.2; omega)) ea_nil) (c_tuple rfl))) (ea_cons (es_im rfl) ea_nil)))))
  | grow p0 ps u =>
    have h1 : (madeF u s).1.length ≤ 300 := Nat.le_trans (Nat.le_mul_of_pos_right _ (Nat.succ_pos _)) ho.2.1
    have hp : (p0 :: ps).length < 1000 := by have := ho.2.2; rw [List.length_cons]; omega
    have D1 : ∀ {ρ : Rho} (h : ρ[0]? = some (some (.im (treeD (.grow p0 ps u))))), EvS (tOp (rIx K) (tVar 0) (tC (.int 1))) ρ (.im (csD (p0 :: ps))) := fun h => es_op (z := .im (csD (p0 :: ps))) (es_im h) es_int (s_ixT rfl)
    exact IN u "grow" (csD (p0 :: ps)) rfl (by show decide (("grow" : Str) = "keep") = false; decide) (by show decide (("grow" : Str) ∈ (["none", "all"] : List Str)) = false; decide) (by show decide (("grow" : Str) ∈ (["both", "either"] : List Str)) = false; decide) (hS u (by simp [subs]))
      (rs_ifNo (et_to (by show decide (("grow" : Str) = "move") = false; decide) (et_test (es_isT (es_tag (t := .grow p0 ps u) rfl) (tag_ok _) (by decide +kernel)))) (rs_ifRt (et_to (by show decide (("grow" : Str) = "grow") = true; decide) (et_test (es_isT (es_tag (t := .grow p0 ps u) rfl) (tag_ok _) (by decide +kernel)))) (rs_ret (es_tup (ds := [csD (madeF (.grow p0 ps u) s).1, .bool (madeF u s).2]) (ea_cons (es_pick
        (es_call (z := .im (csD (swF (madeF u s).1 (p0 :: ps) 1))) (ea_cons (es_im rfl) (ea_cons (D1 rfl) (ea_cons es_int ea_nil))) ⟨_, _, 1, rfl, by decide, by decide, ho.2.1, hp, rfl⟩)
        (es_call (z := .im (csD (shF (madeF u s).1 p0 (p0 :: ps) (-1)))) (ea_cons (es_im rfl) (ea_cons (D1 rfl) (ea_cons (es_un es_int s_neg) ea_nil))) ⟨_, p0, ps, -1, rfl, by decide, by decide, h1, by have := ho.2.2; omega, rfl⟩) (es_im rfl)) (ea_cons (es_im rfl) ea_nil))))))
  | eat p0 ps u =>
    have h1 : (madeF u s).1.length ≤ 300 := Nat.le_trans (Nat.le_mul_of_pos_right _ (Nat.succ_pos _)) ho.2.1
    have hp : (p0 :: ps).length < 1000 := by have := ho.2.2; rw [List.length_cons]; omega
    have D1 : ∀ {ρ : Rho} (h : ρ[0]? = some (some (.im (treeD (.eat p0 ps u))))), EvS (tOp (rIx K) (tVar 0) (tC (.int 1))) ρ (.im (csD (p0 :: ps))) := fun h => es_op (z := .im (csD (p0 :: ps))) (es_im h) es_int (s_ixT rfl)
    exact IN u "eat" (csD (p0 :: ps)) rfl (by show decide (("eat" : Str) = "keep") = false; decide) (by show decide (("eat" : Str) ∈ (["none", "all"] : List Str)) = false; decide) (by show decide (("eat" : Str) ∈ (["both", "either"] : List Str)) = false; decide) (hS u (by simp [subs]))
      (rs_ifNo (et_to (by show decide (("eat" : Str) = "move") = false; decide) (et_test (es_isT (es_tag (t := .eat p0 ps u) rfl) (tag_ok _) (by decide +kernel)))) (rs_ifNo (et_to (by show decide (("eat" : Str) = "grow") = false; decide) (et_test (es_isT (es_tag (t := .eat p0 ps u) rfl) (tag_ok _) (by decide +kernel)))) (rs_ret (es_tup (ds := [csD (madeF (.eat p0 ps u) s).1, .bool (madeF u s).2]) (ea_cons (es_pick
        (es_call (z := .im (csD (shF (madeF u s).1 p0 (p0 :: ps) 1))) (ea_cons (es_im rfl) (ea_cons (D1 rfl) (ea_cons es_int ea_nil))) ⟨_, p0, ps, 1, rfl, by decide, by decide, h1, by have := ho.2.2; omega, rfl⟩)
        (es_call (z := .im (csD (swF (madeF u s).1 (p0 :: ps) (-1)))) (ea_cons (es_im rfl) (ea_cons (D1 rfl) (ea_cons (es_un es_int s_neg) ea_nil))) ⟨_, _, -1, rfl, by decide, by decide, ho.2.1, hp, rfl⟩) (es_im rfl)) (ea_cons (es_im rfl) ea_nil))))))
theorem O_law_made (T : Tx K mg) : ∀ k : Nat, Ok P w K mg base CX0 (k + 2) d_law_made ["tree", "shape"] (spD (R_law_made k))
  | 0 => step_law_made T (by decide) (no_law_made T 1) (len_law_made 0) fun xs z h => by
    obtain ⟨t, s, rfl, hd, ho, rfl⟩ := h
    exact run_law_made t s ho fun u hu => absurd (sub_dep hu) (by omega)
  | k + 1 => step_law_made T (by omega) (O_law_made T k) (len_law_made (k + 1)) fun xs z h => by
    obtain ⟨t, s, rfl, hd, ho, rfl⟩ := h
    exact run_law_made t s ho fun u hu => ⟨u, s, rfl, by have := sub_dep hu; omega, sub_ok hu ho, rfl⟩
end K91
/-! ==== K10 -/
set_option maxRecDepth 100000
set_option maxHeartbeats 4000000
namespace K91
open PySem PySem.Spec PyProof.Rows L2 SG DL
variable {P : Program} {w : World} {K : PySem.W.Frag} {mg : Str → Option Value} {base : Heap}
inductive Deed where
  | put (c : Cell) | take (c : Cell) | move (c : Cell) | turn (t : Int) | out | plan (t : Tree)
def deedD : Deed → PyData
  | .put c => .tuple [.str "put", cD c]
  | .take c => .tuple [.str "take", cD c]
  | .move c => .tuple [.str "move", cD c]
  | .turn t => .tuple [.str "turn", .int t]
  | .out => .tuple [.str "out", .int 0]
  | .plan t => .tuple [.str "do", treeD t]
def deedF (cell : Int) : Deed :=
  let n := dealF cell 18
  let near := nearF (n / 12)
  let tree := treeF 2 near.1
  if n % 12 < 5 then .put near.2 else if n % 12 < 7 then .take near.2 else if n % 12 = 7 then .move near.2 else if n % 12 = 8 then .turn (tree.1 % 8) else if n % 12 = 9 then .out else .plan tree.2
def dtag : Deed → Str
  | .put _ => "put"
  | .take _ => "take"
  | .move _ => "move"
  | .turn _ => "turn"
  | .out => "out"
  | .plan _ => "do"
theorem dtag_ok (d : Deed) : PyData.strOk (dtag d) = true := by
  cases d
  · show PyData.strOk "put" = true; decide +kernel
  · show PyData.strOk "take" = true; decide +kernel
  · show PyData.strOk "move" = true; decide +kernel
  · show PyData.strOk "turn" = true; decide +kernel
  · show PyData.strOk "out" = true; decide +kernel
  · show PyData.strOk "do" = true; decide +kernel
theorem deedD_head (d : Deed) : ∃ ds, deedD d = .tuple (.str (dtag d) :: ds) := by cases d <;> exact ⟨_, rfl⟩
theorem es_dtag {ρ : Rho} {i : Nat} {d : Deed} (h : ρ[i]? = some (some (.im (deedD d)))) : EvS (tOp (rIx K) (tVar i) (tC (.int 0))) ρ (.im (.str (dtag d))) := by
  obtain ⟨ds, e⟩ := deedD_head d
  exact es_op (es_im (h.trans (by rw [e]))) es_int (s_ixT (atI_nat (j := 0) (xs := PyData.str (dtag d) :: ds) rfl))

/-! ### _law_deed -/
def R_law_deed : List SV → SV → Prop := fun xs z => ∃ (c : Int), xs = [.im (.int c)] ∧ z = .im (deedD (deedF c))
theorem sc_law_deed : FnScope ["cell", "number", "way", "spot", "tree"] ["cell"] (defScope s_law_deed) := ⟨rfl, rfl, rfl, by decide +kernel, rfl, by decide +kernel, by decide +kernel⟩
def t_law_deed (K : PySem.W.Frag) (P : Program) (w : World) : TS := tSeq (tAsg (tCB (xDivmod) (tCons (tCall (spD R_law_deal) [] E0 (tCons (tVar 0) (tCons (tC (.int 18)) (tNil)))) (tCons (tC (.int 12)) (tNil)))) (gTup K 2 (gCons (gName 1) (gCons (gName 2) (gNil))))) (tSeq (tAsg (tCall (spD R_law_near) [] E0 (tCons (tVar 1) (tNil))) (gTup K 2 (gCons (gName 1) (gCons (gName 3) (gNil))))) (tSeq (tAsg (tCall (spD (R_law_tree 2)) [] E0 (tCons (tVar 1) (tCons (tC (.int 2)) (tNil)))) (gTup K 2 (gCons (gName 1) (gCons (gName 4) (gNil))))) (tSeq (tIfS (tTest (tOp (rI0 fun i j => .bl (decide (i < j))) (tVar 2) (tC (.int 5)))) (tRet (tTup (tCons (tC (.str "put")) (tCons (tVar 3) (tNil))))) (tNext)) (tSeq (tIfS (tTest (tOp (rI0 fun i j => .bl (decide (i < j))) (tVar 2) (tC (.int 7)))) (tRet (tTup (tCons (tC (.str "take")) (tCons (tVar 3) (tNil))))) (tNext)) (tSeq (tIfS (tTest (tOp (rEqD K) (tVar 2) (tC (.int 7)))) (tRet (tTup (tCons (tC (.str "move")) (tCons (tVar 3) (tNil))))) (tNext)) (tSeq (tIfS (tTest (tOp (rEqD K) (tVar 2) (tC (.int 8)))) (tRet (tTup (tCons (tC (.str "turn")) (tCons (tOp (rI (fun _ j => 0 < j) fun i j => .int (i % j)) (tVar 1) (tC (.int 8))) (tNil))))) (tNext)) (tSeq (tIfS (tTest (tOp (rEqD K) (tVar 2) (tC (.int 9)))) (tRet (tTup (tCons (tC (.str "out")) (tCons (tC (.int 0)) (tNil))))) (tNext)) (tRet (tTup (tCons (tC (.str "do")) (tCons (tVar 4) (tNil))))))))))))
theorem len_law_deed : ∀ xs z, R_law_deed xs z → xs.length = 1 := by
  rintro xs z ⟨_, rfl, _⟩
  rfl
theorem run_law_deed : ∀ xs z, R_law_deed xs z → RunS (t_law_deed K P w) (xs.map some ++ List.replicate (5 - xs.length) none) (.rt z) := by
  rintro xs z ⟨c, rfl, rfl⟩
  have TU : ∀ {ρ : Rho} {i : Nat} {d : Deed} {g : Str} {x : PyData} {te : TE}, deedD d = .tuple [.str g, x] → EvS te ρ (.im x) → EvS (tTup (tCons (tC (.str g)) (tCons te tNil))) ρ (.im (deedD d)) := fun e h => e ▸ es_tup (ds := [.str _, _]) (ea_cons es_str (ea_cons h ea_nil))
  refine rs_seq (rs_asg2 (es_divmod (i := dealF c 18) (es_call (z := .im (.int (dealF c 18))) (ea_cons (es_im rfl) (ea_cons es_int ea_nil)) ⟨c, 18, rfl, by decide, rfl⟩) es_int (by decide) (by decide))) (rs_seq (rs_asg2 (es_call (z := .im (.tuple [.int (nearF (dealF c 18 / 12)).1, cD (nearF (dealF c 18 / 12)).2])) (ea_cons (es_im rfl) ea_nil) ⟨_, rfl, rfl⟩))
    (rs_seq (rs_asg2 (es_call (z := .im (.tuple [.int (treeF 2 (nearF (dealF c 18 / 12)).1).1, treeD (treeF 2 (nearF (dealF c 18 / 12)).1).2])) (ea_cons (es_im rfl) (ea_cons es_int ea_nil)) ⟨_, 2, rfl, by decide, rfl⟩)) ?_))
  unfold deedF
  by_cases h5 : dealF c 18 % 12 < 5
  · simp only [if_pos h5]
    exact rs_ifRt (et_to (decide_eq_true h5) (et_test (es_op (es_im rfl) es_int s_lt))) (rs_ret (TU (i := 0) (d := .put _) rfl (es_im rfl)))
  refine rs_ifNo (et_to (decide_eq_false h5) (et_test (es_op (es_im rfl) es_int s_lt))) ?_
  simp only [if_neg h5]
  by_cases h7 : dealF c 18 % 12 < 7
  · simp only [if_pos h7]
    exact rs_ifRt (et_to (decide_eq_true h7) (et_test (es_op (es_im rfl) es_int s_lt))) (rs_ret (TU (i := 0) (d := .take _) rfl (es_im rfl)))
  refine rs_ifNo (et_to (decide_eq_false h7) (et_test (es_op (es_im rfl) es_int s_lt))) ?_
  simp only [if_neg h7]
  by_cases e7 : dealF c 18 % 12 = 7
  · simp only [if_pos e7]
    exact rs_ifRt (et_to ((int_eqv _ _).trans (decide_eq_true e7)) (et_test (es_op (es_im rfl) es_int (s_eq rfl rfl (int_shaped _) (int_shaped _))))) (rs_ret (TU (i := 0) (d := .move _) rfl (es_im rfl)))
  refine rs_ifNo (et_to ((int_eqv _ _).trans (decide_eq_false e7)) (et_test (es_op (es_im rfl) es_int (s_eq rfl rfl (int_shaped _) (int_shaped _))))) ?_
  simp only [if_neg e7]
  by_cases e8 : dealF c 18 % 12 = 8
  · simp only [if_pos e8]
    exact rs_ifRt (et_to ((int_eqv _ _).trans (decide_eq_true e8)) (et_test (es_op (es_im rfl) es_int (s_eq rfl rfl (int_shaped _) (int_shaped _))))) (rs_ret (TU (i := 0) (d := .turn _) rfl (es_op (es_im rfl) es_int (s_mod (by decide)))))
  refine rs_ifNo (et_to ((int_eqv _ _).trans (decide_eq_false e8)) (et_test (es_op (es_im rfl) es_int (s_eq rfl rfl (int_shaped _) (int_shaped _))))) ?_
  simp only [if_neg e8]
  by_cases e9 : dealF c 18 % 12 = 9
  · simp only [if_pos e9]
    exact rs_ifRt (et_to ((int_eqv _ _).trans (decide_eq_true e9)) (et_test (es_op (es_im rfl) es_int (s_eq rfl rfl (int_shaped _) (int_shaped _))))) (rs_ret (TU (i := 0) (d := .out) rfl es_int))
  refine rs_ifNo (et_to ((int_eqv _ _).trans (decide_eq_false e9)) (et_test (es_op (es_im rfl) es_int (s_eq rfl rfl (int_shaped _) (int_shaped _))))) ?_
  simp only [if_neg e9]
  exact rs_ret (TU (i := 0) (d := .plan _) rfl (es_im rfl))
theorem O_law_deed (T : Tx K mg) : Ok P w K mg base CX0 5 d_law_deed ["cell"] (spD R_law_deed) := by
  obtain ⟨fd, F⟩ := T.fn 83 d_law_deed rfl
  exact ok_data (t := t_law_deed K P w) F sc_law_deed (fun _ _ _ _ _ _ us hl => match us, hl with | [_], _ => rfl) (len_law_deed) (by decide) (fun cdv A outer s H E hr => pss_cons (ps_asg (pe_callB r_divmod rfl (T.free 73 rfl) boot_divmod (pa_cons (pe_own (O_law_deal T) (hr.mono (by first | decide | omega)) rfl (T.glo 45 rfl) pass0 (pa_cons (pv 0) (pa_cons (pe_int) (pa_nil)))) (pa_cons (pe_int) (pa_nil)))) (pg_tup rfl (pgs_cons (pg_name (i := 1) sc_law_deed.nd rfl (by first | exact Or.inl rfl | exact Or.inr rfl)) (pgs_cons (pg_name (i := 2) sc_law_deed.nd rfl (by first | exact Or.inl rfl | exact Or.inr rfl)) (pgs_nil))))) (pss_cons (ps_asg (pe_own (O_law_near T) (hr.mono (by first | decide | omega)) rfl (T.glo 49 rfl) pass0 (pa_cons (pv 1) (pa_nil))) (pg_tup rfl (pgs_cons (pg_name (i := 1) sc_law_deed.nd rfl (by first | exact Or.inl rfl | exact Or.inr rfl)) (pgs_cons (pg_name (i := 3) sc_law_deed.nd rfl (by first | exact Or.inl rfl | exact Or.inr rfl)) (pgs_nil))))) (pss_cons (ps_asg (pe_own (O_law_tree T 2) (hr.mono (by first | decide | omega)) rfl (T.glo 47 rfl) pass0 (pa_cons (pv 1) (pa_cons (pe_int) (pa_nil)))) (pg_tup rfl (pgs_cons (pg_name (i := 1) sc_law_deed.nd rfl (by first | exact Or.inl rfl | exact Or.inr rfl)) (pgs_cons (pg_name (i := 4) sc_law_deed.nd rfl (by first | exact Or.inl rfl | exact Or.inr rfl)) (pgs_nil))))) (pss_cons (ps_if (pt_cmpR op_lt (pv 2) (pe_int) (nomark _)) (pss_one (ps_ret (pe_tup (pa_cons (pe_str) (pa_cons (pv 3) (pa_nil)))))) (pss_nil)) (pss_cons (ps_if (pt_cmpR op_lt (pv 2) (pe_int) (nomark _)) (pss_one (ps_ret (pe_tup (pa_cons (pe_str) (pa_cons (pv 3) (pa_nil)))))) (pss_nil)) (pss_cons (ps_if (pt_cmpR (op_eqD hr.units) (pv 2) (pe_int) (nomark _)) (pss_one (ps_ret (pe_tup (pa_cons (pe_str) (pa_cons (pv 3) (pa_nil)))))) (pss_nil)) (pss_cons (ps_if (pt_cmpR (op_eqD hr.units) (pv 2) (pe_int) (nomark _)) (pss_one (ps_ret (pe_tup (pa_cons (pe_str) (pa_cons (pe_op op_mod (pv 1) (pe_int)) (pa_nil)))))) (pss_nil)) (pss_cons (ps_if (pt_cmpR (op_eqD hr.units) (pv 2) (pe_int) (nomark _)) (pss_one (ps_ret (pe_tup (pa_cons (pe_str) (pa_cons (pe_int) (pa_nil)))))) (pss_nil)) (pss_one (ps_ret (pe_tup (pa_cons (pe_str) (pa_cons (pv 4) (pa_nil)))))))))))))) (fun xs z h => .rt (run_law_deed (P := P) (w := w) (K := K) xs z h))

/-! ### _law_said -/
def smallD : Deed → Prop
  | .put c => c.1.natAbs < 10 ^ 14 ∧ c.2.natAbs < 10 ^ 14
  | .take c => c.1.natAbs < 10 ^ 14 ∧ c.2.natAbs < 10 ^ 14
  | .move c => c.1.natAbs < 10 ^ 14 ∧ c.2.natAbs < 10 ^ 14
  | .turn t => 0 ≤ t ∧ t < 8
  | .out => True
  | .plan t => dep t ≤ 2 ∧ smallT t = true ∧ (wordsF t).length ≤ 1000
def saidF : Deed → Str
  | .put c => Txt.join " " ["put", numT c.1, numT c.2]
  | .take c => Txt.join " " ["take", numT c.1, numT c.2]
  | .move c => Txt.join " " ["move", numT c.1, numT c.2]
  | .turn t => "turn " ++ numT t
  | .out => "out"
  | .plan t => Txt.join " " ([("do" : Str)] ++ wordsF t)
theorem small_nat {c : Cell} (h : smallC c = true) : c.1.natAbs < 10 ^ 1 ∧ c.2.natAbs < 10 ^ 1 := by
  unfold smallC at h
  rw [Bool.and_eq_true, decide_eq_true_iff, decide_eq_true_iff] at h
  omega
theorem cellW_small {cs : List Cell} (h : cs.all smallC = true) {x : Str} (m : x ∈ cellW cs) : x.length ≤ 20 := by
  obtain ⟨c, hc, e⟩ := mem_cellW m
  have := small_nat ((List.all_eq_true.mp h) c hc)
  rcases e with e | e <;> rw [e]
  · exact Nat.le_trans (num_len (by decide) this.1) (by decide)
  · exact Nat.le_trans (num_len (by decide) this.2) (by decide)
theorem words_len : ∀ {t : Tree}, smallT t = true → ∀ {x : Str}, x ∈ wordsF t → x.length ≤ 20
  | .none, _, x, m => by rw [List.mem_singleton.mp m]; decide
  | .all, _, x, m => by rw [List.mem_singleton.mp m]; decide
  | .keep, _, x, m => by rw [List.mem_singleton.mp m]; decide
  | .move d t, h, x, m => by
    simp only [smallT, Bool.and_eq_true] at h
    have := small_nat h.1
    rcases List.mem_append.mp m with m | m
    · rcases List.mem_cons.mp m with e | m
      · rw [e]; decide
      · rcases List.mem_cons.mp m with e | m
        · rw [e]; exact Nat.le_trans (num_len (by decide) this.1) (by decide)
        · rw [List.mem_singleton.mp m]; exact Nat.le_trans (num_len (by decide) this.2) (by decide)
    · exact words_len h.2 m
  | .eat p0 ps t, h, x, m => by
    simp only [smallT, Bool.and_eq_true, decide_eq_true_iff] at h
    rcases List.mem_append.mp m with m | m
    · rcases List.mem_append.mp m with m | m
      · rcases List.mem_cons.mp m with e | m
        · rw [e]; decide
        · rw [List.mem_singleton.mp m]; exact Nat.le_trans (num_len (k := 1) (by decide) (by show (p0 :: ps).length < _; rw [List.length_cons]; omega)) (by decide)
      · exact cellW_small h.1.2 m
    · exact words_len h.2 m
  | .grow p0 ps t, h, x, m => by
    simp only [smallT, Bool.and_eq_true, decide_eq_true_iff] at h
    rcases List.mem_append.mp m with m | m
    · rcases List.mem_append.mp m with m | m
      · rcases List.mem_cons.mp m with e | m
        · rw [e]; decide
        · rw [List.mem_singleton.mp m]; exact Nat.le_trans (num_len (k := 1) (by decide) (by show (p0 :: ps).length < _; rw [List.length_cons]; omega)) (by decide)
      · exact cellW_small h.1.2 m
    · exact words_len h.2 m
  | .both a b, h, x, m => by
    simp only [smallT, Bool.and_eq_true] at h
    rcases List.mem_append.mp m with m | m
    · rcases List.mem_append.mp m with m | m
      · rw [List.mem_singleton.mp m]; decide
      · exact words_len h.1 m
    · exact words_len h.2 m
  | .either a b, h, x, m => by
    simp only [smallT, Bool.and_eq_true] at h
    rcases List.mem_append.mp m with m | m
    · rcases List.mem_append.mp m with m | m
      · rw [List.mem_singleton.mp m]; decide
      · exact words_len h.1 m
    · exact words_len h.2 m
def R_law_said : List SV → SV → Prop := fun xs z => ∃ (d : Deed), xs = [.im (deedD d)] ∧ smallD d ∧ z = .im (.str (saidF d))
theorem sc_law_said : FnScope ["deed"] ["deed"] (defScope s_law_said) := ⟨rfl, rfl, rfl, by decide +kernel, rfl, by decide +kernel, by decide +kernel⟩
def t_law_said (K : PySem.W.Frag) (P : Program) (w : World) : TS := tSeq (tIfS (tTest (tOp (xIn K false) (tOp (rIx K) (tVar 0) (tC (.int 0))) (tTup (tCons (tC (.str "put")) (tCons (tC (.str "take")) (tCons (tC (.str "move")) (tNil))))))) (tRet (tM1 (xJoin K) (tC (.str " ")) (tLst (tCons (tOp (rIx K) (tVar 0) (tC (.int 0))) (tCons (tCB (xStr) (tCons (tOp (rIx K) (tOp (rIx K) (tVar 0) (tC (.int 1))) (tC (.int 0))) (tNil))) (tCons (tCB (xStr) (tCons (tOp (rIx K) (tOp (rIx K) (tVar 0) (tC (.int 1))) (tC (.int 1))) (tNil))) (tNil))))))) (tNext)) (tSeq (tIfS (tTest (tOp (rEqD K) (tOp (rIx K) (tVar 0) (tC (.int 0))) (tC (.str "turn")))) (tRet (tOp (xAdd K) (tC (.str "turn ")) (tCB (xStr) (tCons (tOp (rIx K) (tVar 0) (tC (.int 1))) (tNil))))) (tNext)) (tSeq (tIfS (tTest (tOp (rEqD K) (tOp (rIx K) (tVar 0) (tC (.int 0))) (tC (.str "out")))) (tRet (tC (.str "out"))) (tNext)) (tRet (tM1 (xJoin K) (tC (.str " ")) (tOp (xAdd K) (tLst (tCons (tC (.str "do")) (tNil))) (tCall (spD (R_law_words 2)) [] E0 (tCons (tOp (rIx K) (tVar 0) (tC (.int 1))) (tNil))))))))
theorem len_law_said : ∀ xs z, R_law_said xs z → xs.length = 1 := by
  rintro xs z ⟨_, rfl, _⟩
  rfl
theorem run_law_said : ∀ xs z, R_law_said xs z → RunS (t_law_said K P w) (xs.map some ++ List.replicate (1 - xs.length) none) (.rt z) := by
  rintro xs z ⟨d, rfl, hd, rfl⟩
  have TG : EvS (tOp (rIx K) (tVar 0) (tC (.int 0))) ([.im (deedD d)].map some ++ List.replicate (1 - 1) none) (.im (.str (dtag d))) := es_dtag rfl
  have I1 := es_inT (K := K) (l := ["put", "take", "move"]) TG es_strs3 (dtag_ok d) (by decide +kernel)
  have ET := es_isT (K := K) (y := "turn") TG (dtag_ok d) (by decide +kernel)
  have EO := es_isT (K := K) (y := "out") TG (dtag_ok d) (by decide +kernel)
  cases d with
  | put c =>
    have lo := small_log hd.1
    have lo2 := small_log hd.2
    exact rs_ifRt (et_to (by show decide (("put" : Str) ∈ (["put", "take", "move"] : List Str)) = true; decide) (et_test I1)) (rs_ret (s_join (ys := ["put", numT c.1, numT c.2]) es_str (es_lst (ds := [.str "put", .str (numT c.1), .str (numT c.2)]) (ea_cons TG (ea_cons (es_cb (ea_cons (es_op (es_op (x := .im (deedD (.put c))) (z := .im (cD c)) (es_im rfl) es_int (s_ixT rfl)) es_int (s_ixT rfl)) ea_nil) (c_str lo)) (ea_cons (es_cb (ea_cons (es_op (es_op (x := .im (deedD (.put c))) (z := .im (cD c)) (es_im rfl) es_int (s_ixT rfl)) es_int (s_ixT rfl)) ea_nil) (c_str lo2)) ea_nil)))) rfl (by
      have a := num_len (k := 14) (by decide) hd.1
      have b := num_len (k := 14) (by decide) hd.2
      show ("put" : Str).length + ((numT c.1).length + ((numT c.2).length + 0)) + 3 * 1 ≤ _
      have : ("put" : Str).length = 3 := rfl
      omega)))
  | take c =>
    have lo := small_log hd.1
    have lo2 := small_log hd.2
    exact rs_ifRt (et_to (by show decide (("take" : Str) ∈ (["put", "take", "move"] : List Str)) = true; decide) (et_test I1)) (rs_ret (s_join (ys := ["take", numT c.1, numT c.2]) es_str (es_lst (ds := [.str "take", .str (numT c.1), .str (numT c.2)]) (ea_cons TG (ea_cons (es_cb (ea_cons (es_op (es_op (x := .im (deedD (.take c))) (z := .im (cD c)) (es_im rfl) es_int (s_ixT rfl)) es_int (s_ixT rfl)) ea_nil) (c_str lo)) (ea_cons (es_cb (ea_cons (es_op (es_op (x := .im (deedD (.take c))) (z := .im (cD c)) (es_im rfl) es_int (s_ixT rfl)) es_int (s_ixT rfl)) ea_nil) (c_str lo2)) ea_nil)))) rfl (by
      have a := num_len (k := 14) (by decide) hd.1
      have b := num_len (k := 14) (by decide) hd.2
      show ("take" : Str).length + ((numT c.1).length + ((numT c.2).length + 0)) + 3 * 1 ≤ _
      have : ("take" : Str).length = 4 := rfl
      omega)))
  | move c =>
    have lo := small_log hd.1
    have lo2 := small_log hd.2
    exact rs_ifRt (et_to (by show decide (("move" : Str) ∈ (["put", "take", "move"] : List Str)) = true; decide) (et_test I1)) (rs_ret (s_join (ys := ["move", numT c.1, numT c.2]) es_str (es_lst (ds := [.str "move", .str (numT c.1), .str (numT c.2)]) (ea_cons TG (ea_cons (es_cb (ea_cons (es_op (es_op (x := .im (deedD (.move c))) (z := .im (cD c)) (es_im rfl) es_int (s_ixT rfl)) es_int (s_ixT rfl)) ea_nil) (c_str lo)) (ea_cons (es_cb (ea_cons (es_op (es_op (x := .im (deedD (.move c))) (z := .im (cD c)) (es_im rfl) es_int (s_ixT rfl)) es_int (s_ixT rfl)) ea_nil) (c_str lo2)) ea_nil)))) rfl (by
      have a := num_len (k := 14) (by decide) hd.1
      have b := num_len (k := 14) (by decide) hd.2
      show ("move" : Str).length + ((numT c.1).length + ((numT c.2).length + 0)) + 3 * 1 ≤ _
      have : ("move" : Str).length = 4 := rfl
      omega)))
  | turn t =>
    have lt : (numT t).length ≤ 3 := num_len (k := 2) (by decide) (by have := hd.1; have := hd.2; omega)
    exact rs_ifNo (et_to (by show decide (("turn" : Str) ∈ (["put", "take", "move"] : List Str)) = false; decide) (et_test I1)) (rs_ifRt (et_to (by show decide (("turn" : Str) = "turn") = true; decide) (et_test ET)) (rs_ret (es_op es_str (es_cb (ea_cons (es_op (x := .im (deedD (.turn t))) (z := .im (.int t)) (es_im rfl) es_int (s_ixT rfl)) ea_nil) (c_str (small_log (by have := hd.1; have := hd.2; omega)))) (s_addS (by
      have : ("turn " : Str).length = 5 := rfl
      have e : (Str.ofString (toString t)).length = (numT t).length := rfl
      omega)))))
  | out => exact rs_ifNo (et_to (by show decide (("out" : Str) ∈ (["put", "take", "move"] : List Str)) = false; decide) (et_test I1)) (rs_ifNo (et_to (by show decide (("out" : Str) = "turn") = false; decide) (et_test ET)) (rs_ifRt (et_to (by show decide (("out" : Str) = "out") = true; decide) (et_test EO)) (rs_ret es_str)))
  | plan t =>
    obtain ⟨h1, h2, h3⟩ := hd
    exact rs_ifNo (et_to (by show decide (("do" : Str) ∈ (["put", "take", "move"] : List Str)) = false; decide) (et_test I1)) (rs_ifNo (et_to (by show decide (("do" : Str) = "turn") = false; decide) (et_test ET)) (rs_ifNo (et_to (by show decide (("do" : Str) = "out") = false; decide) (et_test EO)) (rs_ret (s_join (ys := [("do" : Str)] ++ wordsF t) es_str (es_op (es_lst (ds := [.str "do"]) (ea_cons es_str ea_nil)) (es_call (z := .own ((wordsF t).map .str)) (ea_cons (es_op (x := .im (deedD (.plan t))) (z := .im (treeD t)) (es_im rfl) es_int (s_ixT rfl)) ea_nil) ⟨t, rfl, h1, h2, h3, rfl⟩) (s_addL rfl rfl (by rw [List.length_map]; show 1 + _ ≤ _; omega))) (by rw [List.map_append] <;> rfl) (by
      have h := sum_le (n := 20) (l := [("do" : Str)] ++ wordsF t) fun x hx => by
        rcases List.mem_append.mp hx with m | m
        · rw [List.mem_singleton.mp m]; decide
        · exact words_len h2 m
      have l : ([("do" : Str)] ++ wordsF t).length ≤ 1001 := by rw [List.length_append]; show 1 + _ ≤ _; omega
      have s : (Str.ofString " ").length = 1 := rfl
      rw [s]
      have := Nat.mul_le_mul_left 20 l
      omega)))))
theorem O_law_said (T : Tx K mg) : Ok P w K mg base CX0 5 d_law_said ["deed"] (spD R_law_said) := by
  obtain ⟨fd, F⟩ := T.fn 84 d_law_said rfl
  exact ok_data (t := t_law_said K P w) F sc_law_said (fun _ _ _ _ _ _ us hl => match us, hl with | [_], _ => rfl) (len_law_said) (by decide) (fun cdv A outer s H E hr => pss_cons (ps_if (pt_cmpR (o_in (units65 hr)) (pe_ix ix_seq (pv 0) (pe_int) (fun _ _ => rfl)) (pe_tup (pa_cons (pe_str) (pa_cons (pe_str) (pa_cons (pe_str) (pa_nil))))) rfl) (pss_one (ps_ret (r_join (pe_str) (pe_lst (pa_cons (pe_ix ix_seq (pv 0) (pe_int) (fun _ _ => rfl)) (pa_cons (pe_callTy r_str rfl (T.free 74 rfl) boot_str (pa_cons (pe_ix ix_seq (pe_ix ix_seq (pv 0) (pe_int) (fun _ _ => rfl)) (pe_int) (fun _ _ => rfl)) (pa_nil))) (pa_cons (pe_callTy r_str rfl (T.free 74 rfl) boot_str (pa_cons (pe_ix ix_seq (pe_ix ix_seq (pv 0) (pe_int) (fun _ _ => rfl)) (pe_int) (fun _ _ => rfl)) (pa_nil))) (pa_nil)))))))) (pss_nil)) (pss_cons (ps_if (pt_cmpR (op_eqD hr.units) (pe_ix ix_seq (pv 0) (pe_int) (fun _ _ => rfl)) (pe_str) (nomark _)) (pss_one (ps_ret (pe_op o_add (pe_str) (pe_callTy r_str rfl (T.free 74 rfl) boot_str (pa_cons (pe_ix ix_seq (pv 0) (pe_int) (fun _ _ => rfl)) (pa_nil)))))) (pss_nil)) (pss_cons (ps_if (pt_cmpR (op_eqD hr.units) (pe_ix ix_seq (pv 0) (pe_int) (fun _ _ => rfl)) (pe_str) (nomark _)) (pss_one (ps_ret (pe_str))) (pss_nil)) (pss_one (ps_ret (r_join (pe_str) (pe_op o_add (pe_lst (pa_cons (pe_str) (pa_nil))) (pe_own (O_law_words T 2) (hr.mono (by first | decide | omega)) rfl (T.glo 48 rfl) pass0 (pa_cons (pe_ix ix_seq (pv 0) (pe_int) (fun _ _ => rfl)) (pa_nil)))))))))) (fun xs z h => .rt (run_law_said (P := P) (w := w) (K := K) xs z h))

/-! ### _law_due -/
def dueOk : Deed → Shp → Prop
  | .plan t, s => dep t ≤ 2 ∧ madeOk t s
  | _, _ => True
def dueF (s : Shp) : Deed → Shp
  | .put c => metF s ([c], false) false
  | .take c => metF s ([c], true) true
  | .move c => mvF s c
  | .turn t => turnF s t
  | .out => outF s
  | .plan t => madeF t s
theorem rotN_inj : ∀ (n : Nat) {a b : Cell}, rotN n a = rotN n b → a = b
  | 0, _, _, h => h
  | n + 1, a, b, h => by
    have h1 := congrArg Prod.fst h
    have h2 := congrArg Prod.snd h
    have e1 : (rotN n a).2 = (rotN n b).2 := h1
    have e2 : 0 - (rotN n a).1 = 0 - (rotN n b).1 := h2
    exact rotN_inj n (Prod.ext (by omega) e1)
theorem turnC_inj {t : Int} {a b : Cell} (h : turnC a t = turnC b t) : a = b := by
  have h := rotN_inj _ h
  by_cases c : 4 ≤ t
  · rw [if_pos c, if_pos c] at h
    have h1 := congrArg Prod.fst h
    have h2 := congrArg Prod.snd h
    have e1 : a.1 = b.1 := h1
    have e2 : 0 - a.2 = 0 - b.2 := h2
    exact Prod.ext e1 (by omega)
  · rw [if_neg c, if_neg c] at h
    exact h
theorem turn_nodup {l : List Cell} (h : l.Nodup) (t : Int) : (l.map fun x => turnC x t).Nodup := by
  rw [List.Nodup, List.pairwise_map]
  exact List.Pairwise.imp (fun n e => n (turnC_inj e)) h
def R_law_due : List SV → SV → Prop := fun xs z => ∃ (s : Shp) (d : Deed), xs = [.im (shD s), .im (deedD d)] ∧ s.1.length ≤ 200 ∧ s.1.Nodup ∧ dueOk d s ∧ z = .im (shD (dueF s d))
theorem sc_law_due : FnScope ["shape", "deed", "cells", "rest", "cell"] ["shape", "deed"] (defScope s_law_due) := ⟨rfl, rfl, rfl, by decide +kernel, rfl, by decide +kernel, by decide +kernel⟩
def t_law_due (K : PySem.W.Frag) (P : Program) (w : World) : TS := tSeq (tAsg (tVar 0) (gTup K 2 (gCons (gName 2) (gCons (gName 3) (gNil))))) (tSeq (tIfS (tTest (tOp (rEqD K) (tOp (rIx K) (tVar 1) (tC (.int 0))) (tC (.str "put")))) (tRet (tCall (spD R_law_met) [] E0 (tCons (tVar 0) (tCons (tTup (tCons (tTup (tCons (tOp (rIx K) (tVar 1) (tC (.int 1))) (tNil))) (tCons (tC (.bl false)) (tNil)))) (tCons (tC (.bl false)) (tNil)))))) (tNext)) (tSeq (tIfS (tTest (tOp (rEqD K) (tOp (rIx K) (tVar 1) (tC (.int 0))) (tC (.str "take")))) (tRet (tCall (spD R_law_met) [] E0 (tCons (tVar 0) (tCons (tTup (tCons (tTup (tCons (tOp (rIx K) (tVar 1) (tC (.int 1))) (tNil))) (tCons (tC (.bl true)) (tNil)))) (tCons (tC (.bl true)) (tNil)))))) (tNext)) (tSeq (tIfS (tTest (tOp (rEqD K) (tOp (rIx K) (tVar 1) (tC (.int 0))) (tC (.str "move")))) (tRet (tTup (tCons (tCB (xTuple K) (tCons (tLc (iTup K (tVar 2)) (gName 4) (tYes) (tTup (tCons (tOp (xAdd K) (tOp (rIx K) (tVar 4) (tC (.int 0))) (tOp (rIx K) (tOp (rIx K) (tVar 1) (tC (.int 1))) (tC (.int 0)))) (tCons (tOp (xAdd K) (tOp (rIx K) (tVar 4) (tC (.int 1))) (tOp (rIx K) (tOp (rIx K) (tVar 1) (tC (.int 1))) (tC (.int 1)))) (tNil)))) [4]) (tNil))) (tCons (tVar 3) (tNil))))) (tNext)) (tSeq (tIfS (tTest (tOp (rEqD K) (tOp (rIx K) (tVar 1) (tC (.int 0))) (tC (.str "turn")))) (tRet (tTup (tCons (tCB (xTuple K) (tCons (tCB (rSortL K) (tCons (tLc (iTup K (tVar 2)) (gName 4) (tYes) (tCall (spD R_law_turned) [] E0 (tCons (tVar 4) (tCons (tOp (rIx K) (tVar 1) (tC (.int 1))) (tNil)))) [4]) (tNil))) (tNil))) (tCons (tVar 3) (tNil))))) (tNext)) (tSeq (tIfS (tTest (tOp (rEqD K) (tOp (rIx K) (tVar 1) (tC (.int 0))) (tC (.str "out")))) (tRet (tTup (tCons (tVar 2) (tCons (tNotV (tVar 3)) (tNil))))) (tNext)) (tRet (tCall (spD (R_law_made 2)) [] E0 (tCons (tOp (rIx K) (tVar 1) (tC (.int 1))) (tCons (tVar 0) (tNil))))))))))
theorem len_law_due : ∀ xs z, R_law_due xs z → xs.length = 2 := by
  rintro xs z ⟨_, _, rfl, _⟩
  rfl
theorem run_law_due : ∀ xs z, R_law_due xs z → RunS (t_law_due K P w) (xs.map some ++ List.replicate (5 - xs.length) none) (.rt z) := by
  rintro xs z ⟨s, d, rfl, hl, hn, hd, rfl⟩
  cases d with
  | put c =>
    have TG : EvS (tOp (rIx K) (tVar 1) (tC (.int 0))) [some (.im (shD s)), some (.im (deedD (.put c))), some (.im (csD s.1)), some (.im (.bool s.2)), none] (.im (.str (dtag (.put c)))) := es_dtag rfl
    exact rs_seq (rs_asg2 (d1 := csD s.1) (d2 := .bool s.2) (es_im rfl)) (rs_ifRt (et_to (by show decide (("put" : Str) = "put") = true; decide) (et_test (es_isT TG (dtag_ok _) (by decide +kernel)))) (rs_ret (es_call (z := .im (shD (metF s ([c], false) false))) (ea_cons (es_im rfl) (ea_cons (es_tup (ds := [csD [c], .bool false]) (ea_cons (es_tup (ds := [cD c]) (ea_cons (es_op (x := .im (deedD (.put c))) (z := .im (cD c)) (es_im rfl) es_int (s_ixT rfl)) ea_nil)) (ea_cons es_bl ea_nil))) (ea_cons es_bl ea_nil))) ⟨s, ([c], false), false, rfl, by show _ + 1 ≤ _; omega, rfl⟩)))
  | take c =>
    have TG : EvS (tOp (rIx K) (tVar 1) (tC (.int 0))) [some (.im (shD s)), some (.im (deedD (.take c))), some (.im (csD s.1)), some (.im (.bool s.2)), none] (.im (.str (dtag (.take c)))) := es_dtag rfl
    exact rs_seq (rs_asg2 (d1 := csD s.1) (d2 := .bool s.2) (es_im rfl)) (rs_ifNo (et_to (by show decide (("take" : Str) = "put") = false; decide) (et_test (es_isT TG (dtag_ok _) (by decide +kernel)))) (rs_ifRt (et_to (by show decide (("take" : Str) = "take") = true; decide) (et_test (es_isT TG (dtag_ok _) (by decide +kernel)))) (rs_ret (es_call (z := .im (shD (metF s ([c], true) true))) (ea_cons (es_im rfl) (ea_cons (es_tup (ds := [csD [c], .bool true]) (ea_cons (es_tup (ds := [cD c]) (ea_cons (es_op (x := .im (deedD (.take c))) (z := .im (cD c)) (es_im rfl) es_int (s_ixT rfl)) ea_nil)) (ea_cons es_bl ea_nil))) (ea_cons es_bl ea_nil))) ⟨s, ([c], true), true, rfl, by show _ + 1 ≤ _; omega, rfl⟩))))
  | move c =>
    have TG : EvS (tOp (rIx K) (tVar 1) (tC (.int 0))) [some (.im (shD s)), some (.im (deedD (.move c))), some (.im (csD s.1)), some (.im (.bool s.2)), none] (.im (.str (dtag (.move c)))) := es_dtag rfl
    exact rs_seq (rs_asg2 (d1 := csD s.1) (d2 := .bool s.2) (es_im rfl)) (rs_ifNo (et_to (by show decide (("move" : Str) = "put") = false; decide) (et_test (es_isT TG (dtag_ok _) (by decide +kernel)))) (rs_ifNo (et_to (by show decide (("move" : Str) = "take") = false; decide) (et_test (es_isT TG (dtag_ok _) (by decide +kernel)))) (rs_ifRt (et_to (by show decide (("move" : Str) = "move") = true; decide) (et_test (es_isT TG (dtag_ok _) (by decide +kernel)))) (rs_ret (es_tup (ds := [csD (s.1.map fun x => mvC x c), .bool s.2]) (ea_cons (es_to (congrArg SV.im (map_csD s.1 _)) (es_cb (ea_cons (es_mapT (enc := cD) (l := s.1) (h := fun x => cD (mvC x c)) (es_im rfl) (fun x _ => ⟨_, .name 4 _, es_tup (ds := [.int (x.1 + c.1), .int (x.2 + c.2)]) (ea_cons (es_op (es_op (es_im rfl) es_int (s_ixT rfl)) (es_op (es_op (x := .im (deedD (.move c))) (z := .im (cD c)) (es_im rfl) es_int (s_ixT rfl)) es_int (s_ixT rfl)) s_add) (ea_cons (es_op (es_op (es_im rfl) es_int (s_ixT rfl)) (es_op (es_op (x := .im (deedD (.move c))) (z := .im (cD c)) (es_im rfl) es_int (s_ixT rfl)) es_int (s_ixT rfl)) s_add) ea_nil))⟩) (by omega)) ea_nil) (c_tuple rfl))) (ea_cons (es_im rfl) ea_nil)))))))
  | turn t =>
    have TG : EvS (tOp (rIx K) (tVar 1) (tC (.int 0))) [some (.im (shD s)), some (.im (deedD (.turn t))), some (.im (csD s.1)), some (.im (.bool s.2)), none] (.im (.str (dtag (.turn t)))) := es_dtag rfl
    exact rs_seq (rs_asg2 (d1 := csD s.1) (d2 := .bool s.2) (es_im rfl)) (rs_ifNo (et_to (by show decide (("turn" : Str) = "put") = false; decide) (et_test (es_isT TG (dtag_ok _) (by decide +kernel)))) (rs_ifNo (et_to (by show decide (("turn" : Str) = "take") = false; decide) (et_test (es_isT TG (dtag_ok _) (by decide +kernel)))) (rs_ifNo (et_to (by show decide (("turn" : Str) = "move") = false; decide) (et_test (es_isT TG (dtag_ok _) (by decide +kernel)))) (rs_ifRt (et_to (by show decide (("turn" : Str) = "turn") = true; decide) (et_test (es_isT TG (dtag_ok _) (by decide +kernel)))) (rs_ret (es_tup (ds := [csD (rise (s.1.map fun x => turnC x t)), .bool s.2]) (ea_cons (es_cb (ea_cons (es_sorted (cs := s.1.map fun x => turnC x t) (es_mapT (enc := cD) (l := s.1) (h := fun x => cD (turnC x t)) (es_im rfl) (fun x _ => ⟨_, .name 4 _, es_call (z := .im (cD (turnC x t))) (ea_cons (es_im rfl) (ea_cons (es_op (x := .im (deedD (.turn t))) (z := .im (.int t)) (es_im rfl) es_int (s_ixT rfl)) ea_nil)) ⟨x, t, rfl, rfl⟩⟩) (by omega)) (congrArg SV.ro (map_enc s.1 fun x => turnC x t)) (turn_nodup hn t)) ea_nil) (c_tuple rfl)) (ea_cons (es_im rfl) ea_nil))))))))
  | out =>
    have TG : EvS (tOp (rIx K) (tVar 1) (tC (.int 0))) [some (.im (shD s)), some (.im (deedD .out)), some (.im (csD s.1)), some (.im (.bool s.2)), none] (.im (.str (dtag .out))) := es_dtag rfl
    exact rs_seq (rs_asg2 (d1 := csD s.1) (d2 := .bool s.2) (es_im rfl)) (rs_ifNo (et_to (by show decide (("out" : Str) = "put") = false; decide) (et_test (es_isT TG (dtag_ok _) (by decide +kernel)))) (rs_ifNo (et_to (by show decide (("out" : Str) = "take") = false; decide) (et_test (es_isT TG (dtag_ok _) (by decide +kernel)))) (rs_ifNo (et_to (by show decide (("out" : Str) = "move") = false; decide) (et_test (es_isT TG (dtag_ok _) (by decide +kernel)))) (rs_ifNo (et_to (by show decide (("out" : Str) = "turn") = false; decide) (et_test (es_isT TG (dtag_ok _) (by decide +kernel)))) (rs_ifRt (et_to (by show decide (("out" : Str) = "out") = true; decide) (et_test (es_isT TG (dtag_ok _) (by decide +kernel)))) (rs_ret (es_tup (ds := [csD s.1, .bool (!s.2)]) (ea_cons (es_im rfl) (ea_cons (es_notV (es_im rfl)) ea_nil)))))))))
  | plan t =>
    have TG : EvS (tOp (rIx K) (tVar 1) (tC (.int 0))) [some (.im (shD s)), some (.im (deedD (.plan t))), some (.im (csD s.1)), some (.im (.bool s.2)), none] (.im (.str (dtag (.plan t)))) := es_dtag rfl
    exact rs_seq (rs_asg2 (d1 := csD s.1) (d2 := .bool s.2) (es_im rfl)) (rs_ifNo (et_to (by show decide (("do" : Str) = "put") = false; decide) (et_test (es_isT TG (dtag_ok _) (by decide +kernel)))) (rs_ifNo (et_to (by show decide (("do" : Str) = "take") = false; decide) (et_test (es_isT TG (dtag_ok _) (by decide +kernel)))) (rs_ifNo (et_to (by show decide (("do" : Str) = "move") = false; decide) (et_test (es_isT TG (dtag_ok _) (by decide +kernel)))) (rs_ifNo (et_to (by show decide (("do" : Str) = "turn") = false; decide) (et_test (es_isT TG (dtag_ok _) (by decide +kernel)))) (rs_ifNo (et_to (by show decide (("do" : Str) = "out") = false; decide) (et_test (es_isT TG (dtag_ok _) (by decide +kernel)))) ((rs_ret (es_call (z := .im (shD (madeF t s))) (ea_cons (es_op (x := .im (deedD (.plan t))) (z := .im (treeD t)) (es_im rfl) es_int (s_ixT rfl)) (ea_cons (es_im rfl) ea_nil)) ⟨t, s, rfl, hd.1, hd.2, rfl⟩))))))))
theorem O_law_due (T : Tx K mg) : Ok P w K mg base CX0 5 d_law_due ["shape", "deed"] (spD R_law_due) := by
  obtain ⟨fd, F⟩ := T.fn 85 d_law_due rfl
  exact ok_data (t := t_law_due K P w) F sc_law_due (fun _ _ _ _ _ _ us hl => match us, hl with | [_, _], _ => rfl) (len_law_due) (by decide) (fun cdv A outer s H E hr => pss_cons (ps_asg (pv 0) (pg_tup rfl (pgs_cons (pg_name (i := 2) sc_law_due.nd rfl (by first | exact Or.inl rfl | exact Or.inr rfl)) (pgs_cons (pg_name (i := 3) sc_law_due.nd rfl (by first | exact Or.inl rfl | exact Or.inr rfl)) (pgs_nil))))) (pss_cons (ps_if (pt_cmpR (op_eqD hr.units) (pe_ix ix_seq (pv 1) (pe_int) (fun _ _ => rfl)) (pe_str) (nomark _)) (pss_one (ps_ret (pe_own (O_law_met T) (hr.mono (by first | decide | omega)) rfl (T.glo 53 rfl) pass0 (pa_cons (pv 0) (pa_cons (pe_tup (pa_cons (pe_tup (pa_cons (pe_ix ix_seq (pv 1) (pe_int) (fun _ _ => rfl)) (pa_nil))) (pa_cons (pe_bl) (pa_nil)))) (pa_cons (pe_bl) (pa_nil))))))) (pss_nil)) (pss_cons (ps_if (pt_cmpR (op_eqD hr.units) (pe_ix ix_seq (pv 1) (pe_int) (fun _ _ => rfl)) (pe_str) (nomark _)) (pss_one (ps_ret (pe_own (O_law_met T) (hr.mono (by first | decide | omega)) rfl (T.glo 53 rfl) pass0 (pa_cons (pv 0) (pa_cons (pe_tup (pa_cons (pe_tup (pa_cons (pe_ix ix_seq (pv 1) (pe_int) (fun _ _ => rfl)) (pa_nil))) (pa_cons (pe_bl) (pa_nil)))) (pa_cons (pe_bl) (pa_nil))))))) (pss_nil)) (pss_cons (ps_if (pt_cmpR (op_eqD hr.units) (pe_ix ix_seq (pv 1) (pe_int) (fun _ _ => rfl)) (pe_str) (nomark _)) (pss_one (ps_ret (pe_tup (pa_cons (pe_callTy r_tuple rfl (T.free 67 rfl) boot_tuple (pa_cons (pe_lc (own := [("cell", 4)]) (g := gName 4) (tt := tYes) rfl sc_law_due.nd (pi_tup (pv 2)) (blkOk_by (N := ["shape", "deed", "cells", "rest", "cell"]) (sc := defScope s_law_due) (by decide +kernel)) (fun _ _ _ _ _ => pg_name (i := 4) sc_law_due.nd rfl (by first | exact Or.inl rfl | exact Or.inr rfl)) (fun _ _ _ _ _ => pts_nil) (fun _ _ _ _ _ => pe_tup (pa_cons (pe_op o_add (pe_ix ix_seq (pv 4) (pe_int) (fun _ _ => rfl)) (pe_ix ix_seq (pe_ix ix_seq (pv 1) (pe_int) (fun _ _ => rfl)) (pe_int) (fun _ _ => rfl))) (pa_cons (pe_op o_add (pe_ix ix_seq (pv 4) (pe_int) (fun _ _ => rfl)) (pe_ix ix_seq (pe_ix ix_seq (pv 1) (pe_int) (fun _ _ => rfl)) (pe_int) (fun _ _ => rfl))) (pa_nil))))) (pa_nil))) (pa_cons (pv 3) (pa_nil)))))) (pss_nil)) (pss_cons (ps_if (pt_cmpR (op_eqD hr.units) (pe_ix ix_seq (pv 1) (pe_int) (fun _ _ => rfl)) (pe_str) (nomark _)) (pss_one (ps_ret (pe_tup (pa_cons (pe_callTy r_tuple rfl (T.free 67 rfl) boot_tuple (pa_cons (pe_callB (cr_sortL hr.units) rfl (T.free 66 rfl) boot_sorted (pa_cons (pe_lc (own := [("cell", 4)]) (g := gName 4) (tt := tYes) rfl sc_law_due.nd (pi_tup (pv 2)) (blkOk_by (N := ["shape", "deed", "cells", "rest", "cell"]) (sc := defScope s_law_due) (by decide +kernel)) (fun _ _ _ _ _ => pg_name (i := 4) sc_law_due.nd rfl (by first | exact Or.inl rfl | exact Or.inr rfl)) (fun _ _ _ _ _ => pts_nil) (fun _ _ _ _ _ => pe_own (O_law_turned T) (hr.mono (by first | decide | omega)) rfl (T.glo 50 rfl) pass0 (pa_cons (pv 4) (pa_cons (pe_ix ix_seq (pv 1) (pe_int) (fun _ _ => rfl)) (pa_nil))))) (pa_nil))) (pa_nil))) (pa_cons (pv 3) (pa_nil)))))) (pss_nil)) (pss_cons (ps_if (pt_cmpR (op_eqD hr.units) (pe_ix ix_seq (pv 1) (pe_int) (fun _ _ => rfl)) (pe_str) (nomark _)) (pss_one (ps_ret (pe_tup (pa_cons (pv 2) (pa_cons (pe_not (pv 3)) (pa_nil)))))) (pss_nil)) (pss_one (ps_ret (pe_own (O_law_made T 2) (hr.mono (by first | decide | omega)) rfl (T.glo 54 rfl) pass0 (pa_cons (pe_ix ix_seq (pv 1) (pe_int) (fun _ _ => rfl)) (pa_cons (pv 0) (pa_nil)))))))))))) (fun xs z h => .rt (run_law_due (P := P) (w := w) (K := K) xs z h))
end K91
/-! ==== MK0 -/
set_option maxRecDepth 100000
set_option maxHeartbeats 4000000
/-! A class without an __init__ of its own is made. -/
namespace K91
open PySem PySem.Spec PyProof.Rows L2 SG DL
structure Mk0 (K : PySem.W.Frag) (C : Addr) : Prop where
  makes : PySem.W.makesIn K C = true
  init : PySem.W.findIn K (.ref C) "__init__" = some (some (.builtin "object.__init__"))
  kp : PySem.W.keepIn K (.ref C) = true
section
variable {X : Cx} {C : Addr} {x : Str} {p pos : Pos}
theorem run_make0 {pins : List (Addr × Obj)} {σ : L2.St} {H : Hp} {s : Shared} {Q : VK} (M : Mk0 X.K C) (I : Inv X pins σ H s)
    (h : ∀ x dx, H x = none → H dx = none → dx ≠ x → Q (.ref x) (upd (upd H dx (.own x)) x (.ins C dx []))) :
    wpAny (model X.prog X.w) X.A (call (.ref C) []) (EP X pins σ Q) X.xe s := by
  have hq := h (s.heap.objs.size + 1) s.heap.objs.size (I.hok.fresh (Nat.le_succ _)) (I.hok.fresh (Nat.le_refl _)) (Nat.ne_of_lt (Nat.lt_succ_self _))
  have I2 := Inv.made (C := C) I
  have Y := PySem.W.makes_of (M := model X.prog X.w) I.kIn M.makes
  refine wpAny_call (make_map0 I.kIn M.makes M.init (fun self => PySem.W.Looks.of_pure (PySem.W.oi_bind self)) ?_)
  have ho : ((s.heap.push PySem.W.emptyDict).push (PySem.W.instObj C s.heap.objs.size)).get? (s.heap.objs.size + 1) = some (PySem.W.instObj C s.heap.objs.size) := by
    have := Heap.get?_push_size (h := s.heap.push PySem.W.emptyDict) (o := PySem.W.instObj C s.heap.objs.size) rfl
    rw [Heap.size_push] at this
    exact this
  have t1 : PySem.W.Looks (model X.prog X.w) ((s.heap.push PySem.W.emptyDict).push (PySem.W.instObj C s.heap.objs.size)) (typeOf (.ref (s.heap.objs.size + 1))) (.ref C) := (PySem.W.Looks.ld ho).andThen .now
  have t2 : PySem.W.Looks (model X.prog X.w) ((s.heap.push PySem.W.emptyDict).push (PySem.W.instObj C s.heap.objs.size)) (isInstance (.ref (s.heap.objs.size + 1)) (.type "object")) true := t1.andThen (Y.top.keeps fun b o e => Heap.get?_push_of_some _ (Heap.get?_push_of_some _ e))
  refine codeAny_call_builtin PySem.W.oi_plain PySem.W.entry_oi (@PySem.W.check_slot (model X.prog X.w) _ _ _ "object.__init__" "object" "__init__" (.ref (s.heap.objs.size + 1)) [] [] _ PySem.W.oi_kind PySem.W.oi_split t2 (PySem.W.oi_args (.ref (s.heap.objs.size + 1))) ?_)
  rw [PySem.W.oi_run]
  exact wpAny_pure ⟨rfl, ⟨V.ref (s.heap.objs.size + 1), _, I2, rfl, hq⟩⟩
/-- C(): a new instance without attributes -/
def tMk0 (C : Addr) : TE := fun _ H Q => ∀ x dx, H x = none → H dx = none → dx ≠ x → Q (.ref x) (upd (upd H dx (.own x)) x (.ins C dx []))
theorem pe_mk0 (M : Mk0 X.K C) (hg : Gl X x) (hm : X.mg x = some (.ref C)) (hdb : (x == ("__debug__" : Str)) = false := by decide) : PE X (.Call (.Name x p) [] [] pos) (tMk0 C) := by
  refine ⟨fun pins s σ H Q I h => ?_⟩
  refine wpAny_Call_Name_kw (ld_glob I hg hm ?_ hdb)
  exact PySem.W.callWith_K0 I.kIn M.kp (run_make0 M I h)
end
theorem Tx.mk0 {K : PySem.W.Frag} {mg : Str → Option Value} (T : Tx K mg) (i : Nat) {x : Str} (h : xa0[i]? = some (fun K => mk0B K x)) : Mk0 K (He.ga K x) := by
  have e := T.xa i _ h
  unfold mk0B at e
  rw [Bool.and_eq_true, Bool.and_eq_true] at e
  exact ⟨e.1, He.eqO_ok e.2.1, e.2.2⟩
end K91
/-! ==== K11 -/
set_option maxRecDepth 100000
set_option maxHeartbeats 4000000
/-! Plans as objects; method calls by class. -/
namespace K91
open PySem PySem.Spec PyProof.Rows L2 SG DL
variable {P : Program} {w : World} {K : PySem.W.Frag} {mg : Str → Option Value} {base : Heap}
def PlanAt (K : PySem.W.Frag) : Tree → V → Hp → Prop
  | .none, v, H => ∃ a dx, v = .ref a ∧ H a = some (.ins (He.ga K "Nothing") dx [])
  | .all, v, H => ∃ a dx, v = .ref a ∧ H a = some (.ins (He.ga K "Everything") dx [])
  | .keep, v, H => ∃ a dx, v = .ref a ∧ H a = some (.ins (He.ga K "Keep") dx [])
  | .move d t, v, H => ∃ a dx u x, v = .ref a ∧ H a = some (.ins (He.ga K "Move") dx [("step", u), ("plan", x)]) ∧ Im H u (cD d) ∧ PlanAt K t x H
  | .eat p0 ps t, v, H => ∃ a dx u x, v = .ref a ∧ H a = some (.ins (He.ga K "Eat") dx [("piece", u), ("plan", x)]) ∧ Im H u (csD (p0 :: ps)) ∧ PlanAt K t x H
  | .grow p0 ps t, v, H => ∃ a dx u x, v = .ref a ∧ H a = some (.ins (He.ga K "Grow") dx [("piece", u), ("plan", x)]) ∧ Im H u (csD (p0 :: ps)) ∧ PlanAt K t x H
  | .both p q, v, H => ∃ a dx u x, v = .ref a ∧ H a = some (.ins (He.ga K "Both") dx [("one", u), ("other", x)]) ∧ PlanAt K p u H ∧ PlanAt K q x H
  | .either p q, v, H => ∃ a dx u x, v = .ref a ∧ H a = some (.ins (He.ga K "Either") dx [("one", u), ("other", x)]) ∧ PlanAt K p u H ∧ PlanAt K q x H
theorem PlanAt.kp {H H' : Hp} (k : Kp H H') : ∀ {t : Tree} {v : V}, PlanAt K t v H → PlanAt K t v H'
  | .none, _, ⟨a, dx, e, h⟩ => ⟨a, dx, e, k _ _ h rfl⟩
  | .all, _, ⟨a, dx, e, h⟩ => ⟨a, dx, e, k _ _ h rfl⟩
  | .keep, _, ⟨a, dx, e, h⟩ => ⟨a, dx, e, k _ _ h rfl⟩
  | .move _ t, _, ⟨a, dx, u, x, e, h, i, r⟩ => ⟨a, dx, u, x, e, k _ _ h rfl, i.kp k, PlanAt.kp (t := t) k r⟩
  | .eat _ _ t, _, ⟨a, dx, u, x, e, h, i, r⟩ => ⟨a, dx, u, x, e, k _ _ h rfl, i.kp k, PlanAt.kp (t := t) k r⟩
  | .grow _ _ t, _, ⟨a, dx, u, x, e, h, i, r⟩ => ⟨a, dx, u, x, e, k _ _ h rfl, i.kp k, PlanAt.kp (t := t) k r⟩
  | .both p q, _, ⟨a, dx, u, x, e, h, i, r⟩ => ⟨a, dx, u, x, e, k _ _ h rfl, PlanAt.kp (t := p) k i, PlanAt.kp (t := q) k r⟩
  | .either p q, _, ⟨a, dx, u, x, e, h, i, r⟩ => ⟨a, dx, u, x, e, k _ _ h rfl, PlanAt.kp (t := p) k i, PlanAt.kp (t := q) k r⟩
/-- a plan as a value -/
abbrev plV (K : PySem.W.Frag) (t : Tree) : SV := .ob (PlanAt K t) fun _ _ _ k h => PlanAt.kp k h
/-- the class of a plan -/
def clsF (K : PySem.W.Frag) : Tree → Addr
  | .none => He.ga K "Nothing"
  | .all => He.ga K "Everything"
  | .keep => He.ga K "Keep"
  | .move _ _ => He.ga K "Move"
  | .eat _ _ _ => He.ga K "Eat"
  | .grow _ _ _ => He.ga K "Grow"
  | .both _ _ => He.ga K "Both"
  | .either _ _ => He.ga K "Either"
theorem lk_here {k : Str} {v : V} {r : List (Str × V)} : List.lookup k ((k, v) :: r) = some v := by
  have e : (k == k) = true := beq_self_eq_true k
  simp only [List.lookup, e]
theorem lk_past {k g : Str} {v : V} {r : List (Str × V)} (h : (k == g) = false) : List.lookup k ((g, v) :: r) = List.lookup k r := by simp only [List.lookup, h]
/-- its attributes' names -/
def attF : Tree → List Str
  | .move _ _ => ["step", "plan"]
  | .eat _ _ _ => ["piece", "plan"]
  | .grow _ _ _ => ["piece", "plan"]
  | .both _ _ => ["one", "other"]
  | .either _ _ => ["one", "other"]
  | _ => []
theorem lk_none {m : Str} : ∀ {fs : List (Str × V)}, m ∉ fs.map (·.1) → fs.lookup m = none
  | [], _ => rfl
  | (g, v) :: r, h => by
    rw [List.map_cons, List.mem_cons, not_or] at h
    rw [lk_past (by rw [beq_eq_false_iff_ne]; exact h.1), lk_none h.2]
theorem PlanAt.cls {t : Tree} {v : V} {H : Hp} (h : PlanAt K t v H) : ∃ a dx fs, v = .ref a ∧ H a = some (.ins (clsF K t) dx fs) ∧ fs.map (·.1) = attF t := by
  cases t
  · obtain ⟨a, dx, e, h⟩ := h; exact ⟨a, dx, [], e, h, rfl⟩
  · obtain ⟨a, dx, e, h⟩ := h; exact ⟨a, dx, [], e, h, rfl⟩
  · obtain ⟨a, dx, e, h⟩ := h; exact ⟨a, dx, [], e, h, rfl⟩
  all_goals
    obtain ⟨a, dx, u, x, e, h, _⟩ := h
    exact ⟨a, dx, _, e, h, rfl⟩
/-! ### attributes -/
theorem es_fld {ρ : Rho} {te : TE} {Po : V → Hp → Prop} {m} {f : Str} {z : SV} (h : EvS te ρ (.ob Po m)) (hp : ∀ v H, Po v H → ∃ a C dx fs u, v = .ref a ∧ H a = some (.ins C dx fs) ∧ Cls K C ∧ NoAttr K C f ∧ fs.lookup f = some u ∧ SH H H u z) : EvS (tFld K te f) ρ z := fun B σ H Q S q =>
  h B σ H _ S fun v H1 g r => by
    obtain ⟨a, C, dx, fs, u, e, ea, c, n, l, s⟩ := hp v H1 r
    exact ⟨a, C, dx, fs, u, e, ea, c, n, l, q u H1 g (s.back g)⟩
/-! ### methods -/
/-- o.m(..), what it keeps told by o's class -/
def tMP (m : Str) (tb : Addr → Sp → Prop) (ta : TE) (t : TA) : TE := fun σ H Q => ta σ H fun x H1 => ∃ a C dx fs sp, x = .ref a ∧ H1 a = some (.ins C dx fs) ∧ tb C sp ∧ fs.lookup m = none ∧ t σ H1 fun vs H2 => sp (x :: vs) H2 Q E0
structure MOk (X : Cx) (m : Str) (C : Addr) (sp : Sp) : Prop where
  ex : ∃ k f fd ps, Cls X.K C ∧ Meth X.K C m f ∧ FnOk X.prog X.w X.K X.mg X.base CX0 k f fd ps sp ∧ Room k X.A ∧ L2.Binds X.K fd ps []
theorem pe_mp {X : Cx} {m : Str} {pos apos : Pos} {e o : Expr} {es : List Expr} {ta : TE} {t : TA} {tb : Addr → Sp → Prop} {pl : Sem Bool} (he : PE X o ta) (hT : ∀ C sp, tb C sp → MOk X m C sp) (ha : PA X (e :: es) t)
    (hst : starEach (e :: es) X.env = (false, eval e X.env) :: starEach es X.env := by rfl) (hpl : (backTo pos (starEach es X.env)).any (·.1) = false := by rfl)
    (ht : eval (.Call (.Attribute o m apos) (e :: es) [] pos) X.env = (do
      let ov ← eval o X.env
      standAt apos.atName
      let (f, first) ← holding [ov] (getMethod ov m pl)
      callWith pos f first (backTo pos (starEach (e :: es) X.env)) (backToKw pos (keywordEach [] X.env))) := by rfl) :
    PE X (.Call (.Attribute o m apos) (e :: es) [] pos) (tMP m tb ta t) := by
  refine ⟨fun pins s σ H Q I h => ?_⟩
  refine PySem.W.methodCall_KW (pl := pl) (thn (he.run pins s σ H _ I h) fun u s1 ⟨x, H1, I1, rx, a, C, dx, fs, sp, ex, ea, hb, l, q⟩ => ?_) ht
  subst ex
  obtain rfl : u = Value.ref a := rx
  obtain ⟨k, f, fd, ps, c, hm, F, hr, hbi⟩ := (hT C sp hb).ex
  refine getmeth_ok I1 ea c hm l ?_
  refine PySem.W.callWith_K (first := [.ref a]) (h₀ := X.base) I.ok.mod.kin hm.kp (thn (ha.run pos pins s1 σ H1 _ I1 q) fun us s2 ⟨vs, H2, I2, r, q2⟩ => ⟨I2.kIn, ?_⟩) hst hpl
  refine run_fn (us := .ref a :: us) (vs := .ref a :: vs) (dvs := []) F hr hbi .nil pass0 I2 (.cons rfl r) ?_
  rw [List.append_nil]
  exact q2
theorem pe_mp0 {X : Cx} {m : Str} {pos apos : Pos} {o : Expr} {ta : TE} {tb : Addr → Sp → Prop} {pl : Sem Bool} (he : PE X o ta) (hT : ∀ C sp, tb C sp → MOk X m C sp)
    (ht : eval (.Call (.Attribute o m apos) [] [] pos) X.env = (do
      let ov ← eval o X.env
      standAt apos.atName
      let (f, first) ← holding [ov] (getMethod ov m pl)
      callWith pos f first (backTo pos (starEach [] X.env)) (backToKw pos (keywordEach [] X.env))) := by rfl) :
    PE X (.Call (.Attribute o m apos) [] [] pos) (tMP m tb ta tNil) := by
  refine ⟨fun pins s σ H Q I h => ?_⟩
  refine PySem.W.methodCall_KW (pl := pl) (thn (he.run pins s σ H _ I h) fun u s1 ⟨x, H1, I1, rx, a, C, dx, fs, sp, ex, ea, hb, l, q⟩ => ?_) ht
  subst ex
  obtain rfl : u = Value.ref a := rx
  obtain ⟨k, f, fd, ps, c, hm, F, hr, hbi⟩ := (hT C sp hb).ex
  refine getmeth_ok I1 ea c hm l ?_
  exact PySem.W.callWith_K0 (first := [.ref a]) I1.kIn hm.kp (run_fn (us := [.ref a]) (vs := [.ref a]) (dvs := []) F hr hbi .nil pass0 I1 (.cons rfl .nil) q)
/-- a method's promise, from its def's -/
theorem MOk.of {X : Cx} {m : Str} {C : Addr} {sp : Sp} {k : Nat} {d : He.DefD} {ps : List Str} (O : Ok X.prog X.w X.K X.mg X.base CX0 k d ps sp) (c : Cls X.K C) (hm : Meth X.K C m (He.fAd X.K d.at_)) (hr : Room k X.A) : MOk X m C sp := by
  obtain ⟨fd, F, hb, _⟩ := O
  exact ⟨k, _, fd, ps, c, hm, F, hr, hb⟩
theorem es_mp {ρ : Rho} {ta : TE} {t : TA} {tb : Addr → Sp → Prop} {m : Str} {x z : SV} {xs : List SV} {R : List SV → SV → Prop} (h : EvS ta ρ x) (px : x.arg = x) (cl : ∀ v H, SH H H v x → ∃ a C dx fs, v = .ref a ∧ H a = some (.ins C dx fs) ∧ tb C (spD R) ∧ fs.lookup m = none) (ha : EvA t ρ xs)
    (hr : R (x :: xs.map SV.arg) z) (pp : x.plain = true := by rfl) (p : xs.all SV.plain = true := by rfl) : EvS (tMP m tb ta t) ρ z := fun B σ H Q S q => h B σ H _ S fun v H1 g1 r1 => by
  have r1' := r1.asArg pp
  rw [px] at r1'
  obtain ⟨a, C, dx, fs, ev, ea, tbl, l⟩ := cl v H1 r1'
  refine ⟨a, C, dx, fs, _, ev, ea, tbl, l, ha B σ H1 _ (S.grow g1) fun vs H2 g2 r2 => ?_⟩
  refine ⟨_, z, .cons ?_ (asArgs p r2), hr, fun u H3 g3 r3 => q u H3 ((g1.trans g2).trans g3) (r3.back (g1.trans g2))⟩
  have := (r1.gr g2).asArg pp
  rw [px] at this
  exact this
end K91
/-! ==== K12 -/
set_option maxRecDepth 100000
set_option maxHeartbeats 4000000
namespace K91
open PySem PySem.Spec PyProof.Rows L2 SG DL
variable {P : Program} {w : World} {K : PySem.W.Frag} {mg : Str → Option Value} {base : Heap}
def doF : Tree → Shp → Shp
  | .keep, s => s
  | .none, _ => ([], false)
  | .all, _ => ([], true)
  | .move d t, s => mvF (doF t s) d
  | .eat p0 ps t, s => eatF (doF t s) (p0 :: ps)
  | .grow p0 ps t, s => growF (doF t s) (p0 :: ps)
  | .both a b, s => bothF (doF a s) (doF b s)
  | .either a b, s => eitherF (doF a s) (doF b s)
def doOk : Tree → Shp → Prop
  | .move d t, s => doOk t s ∧ (doF t s).1.length ≤ 300
  | .eat p0 ps t, s => doOk t s ∧ (doF t s).1.length * (p0 :: ps).length ≤ 300 ∧ ps.length < 200 ∧ (doF (.eat p0 ps t) s).1.length ≤ 2000
  | .grow p0 ps t, s => doOk t s ∧ (doF t s).1.length * (p0 :: ps).length ≤ 300 ∧ ps.length < 200 ∧ (doF (.grow p0 ps t) s).1.length ≤ 2000
  | .both a b, s => (doOk a s ∧ doOk b s) ∧ (doF a s).1.length + (doF b s).1.length ≤ 300 ∧ (doF (.both a b) s).1.length ≤ 2000
  | .either a b, s => (doOk a s ∧ doOk b s) ∧ (doF a s).1.length + (doF b s).1.length ≤ 300 ∧ (doF (.either a b) s).1.length ≤ 2000
  | .keep, s => s.1.length ≤ 2000
  | _, _ => True
theorem doOk_len {t : Tree} {s : Shp} (h : doOk t s) : (doF t s).1.length ≤ 2000 := by
  cases t with
  | none => exact Nat.zero_le _
  | all => exact Nat.zero_le _
  | keep => exact h
  | move d t => have := h.2; show (List.map _ _).length ≤ _; rw [List.length_map]; omega
  | eat p0 ps t => exact h.2.2.2
  | grow p0 ps t => exact h.2.2.2
  | both a b => exact h.2.2
  | either a b => exact h.2.2
/-- done, at most so deep -/
def R_done (K : PySem.W.Frag) (k : Nat) : List SV → SV → Prop := fun xs z => ∃ (t : Tree) (s : Shp), xs = [plV K t, .im (shD s)] ∧ dep t ≤ k ∧ doOk t s ∧ z = .im (shD (doF t s))
/-- made, of the plans of one kind -/
def R_made (K : PySem.W.Frag) (g : Str) (k : Nat) : List SV → SV → Prop := fun xs z => ∃ (t : Tree) (s : Shp), xs = [plV K t, .im (shD s)] ∧ tagF t = g ∧ dep t ≤ k ∧ doOk t s ∧ z = .im (shD (doF t s))
theorem len_done (k : Nat) : ∀ xs z, R_done K k xs z → xs.length = 2 := by
  rintro xs z ⟨_, _, rfl, _⟩
  rfl
theorem len_made (g : Str) (k : Nat) : ∀ xs z, R_made K g k xs z → xs.length = 2 := by
  rintro xs z ⟨_, _, rfl, _⟩
  rfl
def tbD (K : PySem.W.Frag) (S : List SV → SV → Prop) : Addr → Sp → Prop := fun C sp => ∃ t : Tree, C = clsF K t ∧ sp = spD S
def tbM (K : PySem.W.Frag) (Rm : Str → List SV → SV → Prop) : Addr → Sp → Prop := fun C sp => ∃ t : Tree, C = clsF K t ∧ sp = spD (Rm (tagF t))

theorem cls_of (T : Tx K mg) (t : Tree) : Cls K (clsF K t) := by
  cases t
  · exact T.cls 97 (x := "Nothing") rfl
  · exact T.cls 99 (x := "Everything") rfl
  · exact T.cls 95 (x := "Keep") rfl
  · exact T.cls 101 (x := "Move") rfl
  · exact T.cls 103 (x := "Eat") rfl
  · exact T.cls 105 (x := "Grow") rfl
  · exact T.cls 107 (x := "Both") rfl
  · exact T.cls 109 (x := "Either") rfl
theorem done_of (T : Tx K mg) (t : Tree) : Meth K (clsF K t) "done" (He.fAd K d_Plan_done.at_) := by
  cases t
  · have h := T.meth 142 (x := "Nothing") (m := "done") rfl
    rw [T.same 9 (c := "Nothing") (d := "Plan") (m := "done") rfl] at h
    exact h
  · have h := T.meth 146 (x := "Everything") (m := "done") rfl
    rw [T.same 10 (c := "Everything") (d := "Plan") (m := "done") rfl] at h
    exact h
  · have h := T.meth 138 (x := "Keep") (m := "done") rfl
    rw [T.same 8 (c := "Keep") (d := "Plan") (m := "done") rfl] at h
    exact h
  · have h := T.meth 150 (x := "Move") (m := "done") rfl
    rw [T.same 11 (c := "Move") (d := "Plan") (m := "done") rfl] at h
    exact h
  · have h := T.meth 154 (x := "Eat") (m := "done") rfl
    rw [T.same 12 (c := "Eat") (d := "Plan") (m := "done") rfl] at h
    exact h
  · have h := T.meth 158 (x := "Grow") (m := "done") rfl
    rw [T.same 13 (c := "Grow") (d := "Plan") (m := "done") rfl] at h
    exact h
  · have h := T.meth 162 (x := "Both") (m := "done") rfl
    rw [T.same 14 (c := "Both") (d := "Plan") (m := "done") rfl] at h
    exact h
  · have h := T.meth 166 (x := "Either") (m := "done") rfl
    rw [T.same 15 (c := "Either") (d := "Plan") (m := "done") rfl] at h
    exact h
theorem mok_done {X : Cx} (T : Tx K mg) {l : Nat} {S : List SV → SV → Prop} (O : Ok P w K mg base CX0 l d_Plan_done ["self", "shape"] (spD S)) (hr : Room l X.A) (ex : X.prog = P ∧ X.w = w ∧ X.K = K ∧ X.mg = mg ∧ X.base = base := by exact ⟨rfl, rfl, rfl, rfl, rfl⟩) : ∀ C sp, tbD K S C sp → MOk X "done" C sp := by
  obtain ⟨rfl, rfl, rfl, rfl, rfl⟩ := ex
  rintro C sp ⟨t, rfl, rfl⟩
  exact .of O (cls_of T t) (done_of T t) hr
theorem att_sub (t : Tree) : attF t = [] ∨ attF t = [("step" : Str), "plan"] ∨ attF t = [("piece" : Str), "plan"] ∨ attF t = [("one" : Str), "other"] := by
  cases t
  · exact .inl rfl
  · exact .inl rfl
  · exact .inl rfl
  · exact .inr (.inl rfl)
  · exact .inr (.inr (.inl rfl))
  · exact .inr (.inr (.inl rfl))
  · exact .inr (.inr (.inr rfl))
  · exact .inr (.inr (.inr rfl))
theorem no_done (t : Tree) : ("done" : Str) ∉ attF t := by rcases att_sub t with e | e | e | e <;> rw [e] <;> decide
theorem no_made (t : Tree) : ("made" : Str) ∉ attF t := by rcases att_sub t with e | e | e | e <;> rw [e] <;> decide
theorem no_about (t : Tree) : ("about" : Str) ∉ attF t := by rcases att_sub t with e | e | e | e <;> rw [e] <;> decide
theorem no_parts (t : Tree) : ("parts_in" : Str) ∉ attF t := by rcases att_sub t with e | e | e | e <;> rw [e] <;> decide
/-- self.plan.done(shape) -/
theorem es_done {ρ : Rho} {ta tb : TE} {t : Tree} {s : Shp} {S : List SV → SV → Prop} (ha : EvS ta ρ (plV K t)) (hb : EvS tb ρ (.im (shD s))) (hS : S [plV K t, .im (shD s)] (.im (shD (doF t s)))) : EvS (tMP "done" (tbD K S) ta (tCons tb tNil)) ρ (.im (shD (doF t s))) :=
  es_mp (R := S) ha rfl (fun v H h => by
    obtain ⟨a, dx, fs, e, ea, en⟩ := PlanAt.cls h
    refine ⟨a, _, dx, fs, e, ea, ⟨t, rfl, rfl⟩, lk_none ?_⟩
    rw [en]
    exact no_done t) (ea_cons hb ea_nil) hS

/-! ### Plan.made -/
theorem sc_Plan_made : FnScope ["self", "shape"] ["self", "shape"] (defScope s_Plan_made) := ⟨rfl, rfl, rfl, by decide +kernel, rfl, by decide +kernel, by decide +kernel⟩
def t_Plan_made (K : PySem.W.Frag) (P : Program) (w : World) (S : List SV → SV → Prop) : TS := tRet (tVar 1)
theorem step_Plan_made (T : Tx K mg) {S R : List SV → SV → Prop} {j : Nat} (hj : 9 ≤ j) (OD : Ok P w K mg base CX0 j d_Plan_done ["self", "shape"] (spD S)) (len : ∀ xs z, R xs z → xs.length = 2)
    (run : ∀ xs z, R xs z → RunS (t_Plan_made K P w S) (xs.map some ++ List.replicate (2 - xs.length) none) (.rt z)) : Ok P w K mg base CX0 (j + 1) d_Plan_made ["self", "shape"] (spD R) := by
  obtain ⟨fd, F⟩ := T.fn 24 d_Plan_made rfl
  exact ok_data (t := t_Plan_made K P w S) F sc_Plan_made (fun _ _ _ _ _ _ us hl => match us, hl with | [_, _], _ => rfl) len (by decide) (fun cdv A outer s H E hr => pss_one (ps_ret (pv 1))) (fun xs z h => .rt (run xs z h))
theorem run_Plan_made {S : List SV → SV → Prop} {k : Nat} (hS : ∀ (u : Tree) (s : Shp), dep u + 1 ≤ k → doOk u s → S [plV K u, .im (shD s)] (.im (shD (doF u s)))) : ∀ xs z, R_made K "keep" k xs z → RunS (t_Plan_made K P w S) (xs.map some ++ List.replicate (2 - xs.length) none) (.rt z) := by
  rintro xs z ⟨t, s, rfl, ht, hd, ho, rfl⟩
  cases t with
  | none => exact absurd ht (by show ¬ (("none" : Str) = "keep"); decide)
  | all => exact absurd ht (by show ¬ (("all" : Str) = "keep"); decide)
  | keep =>
    exact rs_ret (es_im rfl)
  | move _ _ => exact absurd ht (by show ¬ (("move" : Str) = "keep"); decide)
  | eat _ _ _ => exact absurd ht (by show ¬ (("eat" : Str) = "keep"); decide)
  | grow _ _ _ => exact absurd ht (by show ¬ (("grow" : Str) = "keep"); decide)
  | both _ _ => exact absurd ht (by show ¬ (("both" : Str) = "keep"); decide)
  | either _ _ => exact absurd ht (by show ¬ (("either" : Str) = "keep"); decide)


/-! ### Nothing.made -/
theorem sc_Nothing_made : FnScope ["self", "shape"] ["self", "shape"] (defScope s_Nothing_made) := ⟨rfl, rfl, rfl, by decide +kernel, rfl, by decide +kernel, by decide +kernel⟩
def t_Nothing_made (K : PySem.W.Frag) (P : Program) (w : World) (S : List SV → SV → Prop) : TS := tRet (tTup (tCons (tTup (tNil)) (tCons (tC (.bl false)) (tNil))))
theorem step_Nothing_made (T : Tx K mg) {S R : List SV → SV → Prop} {j : Nat} (hj : 9 ≤ j) (OD : Ok P w K mg base CX0 j d_Plan_done ["self", "shape"] (spD S)) (len : ∀ xs z, R xs z → xs.length = 2)
    (run : ∀ xs z, R xs z → RunS (t_Nothing_made K P w S) (xs.map some ++ List.replicate (2 - xs.length) none) (.rt z)) : Ok P w K mg base CX0 (j + 1) d_Nothing_made ["self", "shape"] (spD R) := by
  obtain ⟨fd, F⟩ := T.fn 28 d_Nothing_made rfl
  exact ok_data (t := t_Nothing_made K P w S) F sc_Nothing_made (fun _ _ _ _ _ _ us hl => match us, hl with | [_, _], _ => rfl) len (by decide) (fun cdv A outer s H E hr => pss_one (ps_ret (pe_tup (pa_cons (pe_tup (pa_nil)) (pa_cons (pe_bl) (pa_nil)))))) (fun xs z h => .rt (run xs z h))
theorem run_Nothing_made {S : List SV → SV → Prop} {k : Nat} (hS : ∀ (u : Tree) (s : Shp), dep u + 1 ≤ k → doOk u s → S [plV K u, .im (shD s)] (.im (shD (doF u s)))) : ∀ xs z, R_made K "none" k xs z → RunS (t_Nothing_made K P w S) (xs.map some ++ List.replicate (2 - xs.length) none) (.rt z) := by
  rintro xs z ⟨t, s, rfl, ht, hd, ho, rfl⟩
  cases t with
  | none =>
    exact rs_ret (es_tup (ds := [csD [], .bool false]) (ea_cons (es_tup (ds := []) ea_nil) (ea_cons es_bl ea_nil)))
  | all => exact absurd ht (by show ¬ (("all" : Str) = "none"); decide)
  | keep => exact absurd ht (by show ¬ (("keep" : Str) = "none"); decide)
  | move _ _ => exact absurd ht (by show ¬ (("move" : Str) = "none"); decide)
  | eat _ _ _ => exact absurd ht (by show ¬ (("eat" : Str) = "none"); decide)
  | grow _ _ _ => exact absurd ht (by show ¬ (("grow" : Str) = "none"); decide)
  | both _ _ => exact absurd ht (by show ¬ (("both" : Str) = "none"); decide)
  | either _ _ => exact absurd ht (by show ¬ (("either" : Str) = "none"); decide)


/-! ### Everything.made -/
theorem sc_Everything_made : FnScope ["self", "shape"] ["self", "shape"] (defScope s_Everything_made) := ⟨rfl, rfl, rfl, by decide +kernel, rfl, by decide +kernel, by decide +kernel⟩
def t_Everything_made (K : PySem.W.Frag) (P : Program) (w : World) (S : List SV → SV → Prop) : TS := tRet (tTup (tCons (tTup (tNil)) (tCons (tC (.bl true)) (tNil))))
theorem step_Everything_made (T : Tx K mg) {S R : List SV → SV → Prop} {j : Nat} (hj : 9 ≤ j) (OD : Ok P w K mg base CX0 j d_Plan_done ["self", "shape"] (spD S)) (len : ∀ xs z, R xs z → xs.length = 2)
    (run : ∀ xs z, R xs z → RunS (t_Everything_made K P w S) (xs.map some ++ List.replicate (2 - xs.length) none) (.rt z)) : Ok P w K mg base CX0 (j + 1) d_Everything_made ["self", "shape"] (spD R) := by
  obtain ⟨fd, F⟩ := T.fn 29 d_Everything_made rfl
  exact ok_data (t := t_Everything_made K P w S) F sc_Everything_made (fun _ _ _ _ _ _ us hl => match us, hl with | [_, _], _ => rfl) len (by decide) (fun cdv A outer s H E hr => pss_one (ps_ret (pe_tup (pa_cons (pe_tup (pa_nil)) (pa_cons (pe_bl) (pa_nil)))))) (fun xs z h => .rt (run xs z h))
theorem run_Everything_made {S : List SV → SV → Prop} {k : Nat} (hS : ∀ (u : Tree) (s : Shp), dep u + 1 ≤ k → doOk u s → S [plV K u, .im (shD s)] (.im (shD (doF u s)))) : ∀ xs z, R_made K "all" k xs z → RunS (t_Everything_made K P w S) (xs.map some ++ List.replicate (2 - xs.length) none) (.rt z) := by
  rintro xs z ⟨t, s, rfl, ht, hd, ho, rfl⟩
  cases t with
  | none => exact absurd ht (by show ¬ (("none" : Str) = "all"); decide)
  | all =>
    exact rs_ret (es_tup (ds := [csD [], .bool true]) (ea_cons (es_tup (ds := []) ea_nil) (ea_cons es_bl ea_nil)))
  | keep => exact absurd ht (by show ¬ (("keep" : Str) = "all"); decide)
  | move _ _ => exact absurd ht (by show ¬ (("move" : Str) = "all"); decide)
  | eat _ _ _ => exact absurd ht (by show ¬ (("eat" : Str) = "all"); decide)
  | grow _ _ _ => exact absurd ht (by show ¬ (("grow" : Str) = "all"); decide)
  | both _ _ => exact absurd ht (by show ¬ (("both" : Str) = "all"); decide)
  | either _ _ => exact absurd ht (by show ¬ (("either" : Str) = "all"); decide)


/-! ### Move.made -/
theorem sc_Move_made : FnScope ["self", "shape"] ["self", "shape"] (defScope s_Move_made) := ⟨rfl, rfl, rfl, by decide +kernel, rfl, by decide +kernel, by decide +kernel⟩
def t_Move_made (K : PySem.W.Frag) (P : Program) (w : World) (S : List SV → SV → Prop) : TS := tRet (tCall (spD R_moved) [] E0 (tCons (tMP "done" (tbD K S) (tFld K (tVar 0) "plan") (tCons (tVar 1) (tNil))) (tCons (tFld K (tVar 0) "step") (tNil))))
theorem step_Move_made (T : Tx K mg) {S R : List SV → SV → Prop} {j : Nat} (hj : 9 ≤ j) (OD : Ok P w K mg base CX0 j d_Plan_done ["self", "shape"] (spD S)) (len : ∀ xs z, R xs z → xs.length = 2)
    (run : ∀ xs z, R xs z → RunS (t_Move_made K P w S) (xs.map some ++ List.replicate (2 - xs.length) none) (.rt z)) : Ok P w K mg base CX0 (j + 1) d_Move_made ["self", "shape"] (spD R) := by
  obtain ⟨fd, F⟩ := T.fn 31 d_Move_made rfl
  exact ok_data (t := t_Move_made K P w S) F sc_Move_made (fun _ _ _ _ _ _ us hl => match us, hl with | [_, _], _ => rfl) len (by decide) (fun cdv A outer s H E hr => pss_one (ps_ret (pe_own (O_moved T) (hr.mono (by first | decide | omega)) rfl (T.glo 10 rfl) pass0 (pa_cons (pe_mp (pe_fld (pv 0) rfl) (mok_done T OD (hr.mono (by omega))) (pa_cons (pv 1) (pa_nil))) (pa_cons (pe_fld (pv 0) rfl) (pa_nil)))))) (fun xs z h => .rt (run xs z h))
theorem run_Move_made (T : Tx K mg) {S : List SV → SV → Prop} {k : Nat} (hS : ∀ (u : Tree) (s : Shp), dep u + 1 ≤ k → doOk u s → S [plV K u, .im (shD s)] (.im (shD (doF u s)))) : ∀ xs z, R_made K "move" k xs z → RunS (t_Move_made K P w S) (xs.map some ++ List.replicate (2 - xs.length) none) (.rt z) := by
  rintro xs z ⟨t, s, rfl, ht, hd, ho, rfl⟩
  cases t with
  | none => exact absurd ht (by show ¬ (("none" : Str) = "move"); decide)
  | all => exact absurd ht (by show ¬ (("all" : Str) = "move"); decide)
  | keep => exact absurd ht (by show ¬ (("keep" : Str) = "move"); decide)
  | move d t =>
    exact rs_ret (es_call (z := .im (shD (mvF (doF t s) d))) (ea_cons (es_done (es_fld (z := plV K t) (es_var (x := plV K (.move d t)) rfl rfl) (fun v H h => by obtain ⟨a, dx, u, x, e, ea, h1, h2⟩ := h; exact ⟨a, _, dx, _, x, e, ea, T.cls 101 (x := "Move") rfl, T.noat 116 (x := "Move") (f := "plan") rfl, (lk_past (by decide)).trans lk_here, h2⟩)) (es_im rfl) (hS t s hd ho.1)) (ea_cons (es_fld (z := .im (cD d)) (es_var (x := plV K (.move d t)) rfl rfl) (fun v H h => by obtain ⟨a, dx, u, x, e, ea, h1, h2⟩ := h; exact ⟨a, _, dx, _, u, e, ea, T.cls 101 (x := "Move") rfl, T.noat 115 (x := "Move") (f := "step") rfl, lk_here, h1⟩)) ea_nil)) ⟨doF t s, d, rfl, by have := ho.2; omega, rfl⟩)
  | eat _ _ _ => exact absurd ht (by show ¬ (("eat" : Str) = "move"); decide)
  | grow _ _ _ => exact absurd ht (by show ¬ (("grow" : Str) = "move"); decide)
  | both _ _ => exact absurd ht (by show ¬ (("both" : Str) = "move"); decide)
  | either _ _ => exact absurd ht (by show ¬ (("either" : Str) = "move"); decide)


/-! ### Eat.made -/
theorem sc_Eat_made : FnScope ["self", "shape"] ["self", "shape"] (defScope s_Eat_made) := ⟨rfl, rfl, rfl, by decide +kernel, rfl, by decide +kernel, by decide +kernel⟩
def t_Eat_made (K : PySem.W.Frag) (P : Program) (w : World) (S : List SV → SV → Prop) : TS := tRet (tCall (spD R_eaten) [] E0 (tCons (tMP "done" (tbD K S) (tFld K (tVar 0) "plan") (tCons (tVar 1) (tNil))) (tCons (tFld K (tVar 0) "piece") (tNil))))
theorem step_Eat_made (T : Tx K mg) {S R : List SV → SV → Prop} {j : Nat} (hj : 9 ≤ j) (OD : Ok P w K mg base CX0 j d_Plan_done ["self", "shape"] (spD S)) (len : ∀ xs z, R xs z → xs.length = 2)
    (run : ∀ xs z, R xs z → RunS (t_Eat_made K P w S) (xs.map some ++ List.replicate (2 - xs.length) none) (.rt z)) : Ok P w K mg base CX0 (j + 1) d_Eat_made ["self", "shape"] (spD R) := by
  obtain ⟨fd, F⟩ := T.fn 33 d_Eat_made rfl
  exact ok_data (t := t_Eat_made K P w S) F sc_Eat_made (fun _ _ _ _ _ _ us hl => match us, hl with | [_, _], _ => rfl) len (by decide) (fun cdv A outer s H E hr => pss_one (ps_ret (pe_own (O_eaten T) (hr.mono (by first | decide | omega)) rfl (T.glo 22 rfl) pass0 (pa_cons (pe_mp (pe_fld (pv 0) rfl) (mok_done T OD (hr.mono (by omega))) (pa_cons (pv 1) (pa_nil))) (pa_cons (pe_fld (pv 0) rfl) (pa_nil)))))) (fun xs z h => .rt (run xs z h))
theorem run_Eat_made (T : Tx K mg) {S : List SV → SV → Prop} {k : Nat} (hS : ∀ (u : Tree) (s : Shp), dep u + 1 ≤ k → doOk u s → S [plV K u, .im (shD s)] (.im (shD (doF u s)))) : ∀ xs z, R_made K "eat" k xs z → RunS (t_Eat_made K P w S) (xs.map some ++ List.replicate (2 - xs.length) none) (.rt z) := by
  rintro xs z ⟨t, s, rfl, ht, hd, ho, rfl⟩
  cases t with
  | none => exact absurd ht (by show ¬ (("none" : Str) = "eat"); decide)
  | all => exact absurd ht (by show ¬ (("all" : Str) = "eat"); decide)
  | keep => exact absurd ht (by show ¬ (("keep" : Str) = "eat"); decide)
  | move _ _ => exact absurd ht (by show ¬ (("move" : Str) = "eat"); decide)
  | eat p0 ps t =>
    exact rs_ret (es_call (z := .im (shD (eatF (doF t s) (p0 :: ps)))) (ea_cons (es_done (es_fld (z := plV K t) (es_var (x := plV K (.eat p0 ps t)) rfl rfl) (fun v H h => by obtain ⟨a, dx, u, x, e, ea, h1, h2⟩ := h; exact ⟨a, _, dx, _, x, e, ea, T.cls 103 (x := "Eat") rfl, T.noat 119 (x := "Eat") (f := "plan") rfl, (lk_past (by decide)).trans lk_here, h2⟩)) (es_im rfl) (hS t s hd ho.1)) (ea_cons (es_fld (z := .im (csD (p0 :: ps))) (es_var (x := plV K (.eat p0 ps t)) rfl rfl) (fun v H h => by obtain ⟨a, dx, u, x, e, ea, h1, h2⟩ := h; exact ⟨a, _, dx, _, u, e, ea, T.cls 103 (x := "Eat") rfl, T.noat 118 (x := "Eat") (f := "piece") rfl, lk_here, h1⟩)) ea_nil)) ⟨doF t s, p0, ps, rfl, ho.2.1, ho.2.2.1, rfl⟩)
  | grow _ _ _ => exact absurd ht (by show ¬ (("grow" : Str) = "eat"); decide)
  | both _ _ => exact absurd ht (by show ¬ (("both" : Str) = "eat"); decide)
  | either _ _ => exact absurd ht (by show ¬ (("either" : Str) = "eat"); decide)


/-! ### Grow.made -/
theorem sc_Grow_made : FnScope ["self", "shape"] ["self", "shape"] (defScope s_Grow_made) := ⟨rfl, rfl, rfl, by decide +kernel, rfl, by decide +kernel, by decide +kernel⟩
def t_Grow_made (K : PySem.W.Frag) (P : Program) (w : World) (S : List SV → SV → Prop) : TS := tRet (tCall (spD R_grown) [] E0 (tCons (tMP "done" (tbD K S) (tFld K (tVar 0) "plan") (tCons (tVar 1) (tNil))) (tCons (tFld K (tVar 0) "piece") (tNil))))
theorem step_Grow_made (T : Tx K mg) {S R : List SV → SV → Prop} {j : Nat} (hj : 9 ≤ j) (OD : Ok P w K mg base CX0 j d_Plan_done ["self", "shape"] (spD S)) (len : ∀ xs z, R xs z → xs.length = 2)
    (run : ∀ xs z, R xs z → RunS (t_Grow_made K P w S) (xs.map some ++ List.replicate (2 - xs.length) none) (.rt z)) : Ok P w K mg base CX0 (j + 1) d_Grow_made ["self", "shape"] (spD R) := by
  obtain ⟨fd, F⟩ := T.fn 35 d_Grow_made rfl
  exact ok_data (t := t_Grow_made K P w S) F sc_Grow_made (fun _ _ _ _ _ _ us hl => match us, hl with | [_, _], _ => rfl) len (by decide) (fun cdv A outer s H E hr => pss_one (ps_ret (pe_own (O_grown T) (hr.mono (by first | decide | omega)) rfl (T.glo 21 rfl) pass0 (pa_cons (pe_mp (pe_fld (pv 0) rfl) (mok_done T OD (hr.mono (by omega))) (pa_cons (pv 1) (pa_nil))) (pa_cons (pe_fld (pv 0) rfl) (pa_nil)))))) (fun xs z h => .rt (run xs z h))
theorem run_Grow_made (T : Tx K mg) {S : List SV → SV → Prop} {k : Nat} (hS : ∀ (u : Tree) (s : Shp), dep u + 1 ≤ k → doOk u s → S [plV K u, .im (shD s)] (.im (shD (doF u s)))) : ∀ xs z, R_made K "grow" k xs z → RunS (t_Grow_made K P w S) (xs.map some ++ List.replicate (2 - xs.length) none) (.rt z) := by
  rintro xs z ⟨t, s, rfl, ht, hd, ho, rfl⟩
  cases t with
  | none => exact absurd ht (by show ¬ (("none" : Str) = "grow"); decide)
  | all => exact absurd ht (by show ¬ (("all" : Str) = "grow"); decide)
  | keep => exact absurd ht (by show ¬ (("keep" : Str) = "grow"); decide)
  | move _ _ => exact absurd ht (by show ¬ (("move" : Str) = "grow"); decide)
  | eat _ _ _ => exact absurd ht (by show ¬ (("eat" : Str) = "grow"); decide)
  | grow p0 ps t =>
    exact rs_ret (es_call (z := .im (shD (growF (doF t s) (p0 :: ps)))) (ea_cons (es_done (es_fld (z := plV K t) (es_var (x := plV K (.grow p0 ps t)) rfl rfl) (fun v H h => by obtain ⟨a, dx, u, x, e, ea, h1, h2⟩ := h; exact ⟨a, _, dx, _, x, e, ea, T.cls 105 (x := "Grow") rfl, T.noat 122 (x := "Grow") (f := "plan") rfl, (lk_past (by decide)).trans lk_here, h2⟩)) (es_im rfl) (hS t s hd ho.1)) (ea_cons (es_fld (z := .im (csD (p0 :: ps))) (es_var (x := plV K (.grow p0 ps t)) rfl rfl) (fun v H h => by obtain ⟨a, dx, u, x, e, ea, h1, h2⟩ := h; exact ⟨a, _, dx, _, u, e, ea, T.cls 105 (x := "Grow") rfl, T.noat 121 (x := "Grow") (f := "piece") rfl, lk_here, h1⟩)) ea_nil)) ⟨doF t s, p0, ps, rfl, ho.2.1, ho.2.2.1, rfl⟩)
  | both _ _ => exact absurd ht (by show ¬ (("both" : Str) = "grow"); decide)
  | either _ _ => exact absurd ht (by show ¬ (("either" : Str) = "grow"); decide)


/-! ### Both.made -/
theorem sc_Both_made : FnScope ["self", "shape"] ["self", "shape"] (defScope s_Both_made) := ⟨rfl, rfl, rfl, by decide +kernel, rfl, by decide +kernel, by decide +kernel⟩
def t_Both_made (K : PySem.W.Frag) (P : Program) (w : World) (S : List SV → SV → Prop) : TS := tRet (tCall (spD R_both) [] E0 (tCons (tMP "done" (tbD K S) (tFld K (tVar 0) "one") (tCons (tVar 1) (tNil))) (tCons (tMP "done" (tbD K S) (tFld K (tVar 0) "other") (tCons (tVar 1) (tNil))) (tNil))))
theorem step_Both_made (T : Tx K mg) {S R : List SV → SV → Prop} {j : Nat} (hj : 9 ≤ j) (OD : Ok P w K mg base CX0 j d_Plan_done ["self", "shape"] (spD S)) (len : ∀ xs z, R xs z → xs.length = 2)
    (run : ∀ xs z, R xs z → RunS (t_Both_made K P w S) (xs.map some ++ List.replicate (2 - xs.length) none) (.rt z)) : Ok P w K mg base CX0 (j + 1) d_Both_made ["self", "shape"] (spD R) := by
  obtain ⟨fd, F⟩ := T.fn 37 d_Both_made rfl
  exact ok_data (t := t_Both_made K P w S) F sc_Both_made (fun _ _ _ _ _ _ us hl => match us, hl with | [_, _], _ => rfl) len (by decide) (fun cdv A outer s H E hr => pss_one (ps_ret (pe_own (O_both T) (hr.mono (by first | decide | omega)) rfl (T.glo 6 rfl) pass0 (pa_cons (pe_mp (pe_fld (pv 0) rfl) (mok_done T OD (hr.mono (by omega))) (pa_cons (pv 1) (pa_nil))) (pa_cons (pe_mp (pe_fld (pv 0) rfl) (mok_done T OD (hr.mono (by omega))) (pa_cons (pv 1) (pa_nil))) (pa_nil)))))) (fun xs z h => .rt (run xs z h))
theorem run_Both_made (T : Tx K mg) {S : List SV → SV → Prop} {k : Nat} (hS : ∀ (u : Tree) (s : Shp), dep u + 1 ≤ k → doOk u s → S [plV K u, .im (shD s)] (.im (shD (doF u s)))) : ∀ xs z, R_made K "both" k xs z → RunS (t_Both_made K P w S) (xs.map some ++ List.replicate (2 - xs.length) none) (.rt z) := by
  rintro xs z ⟨t, s, rfl, ht, hd, ho, rfl⟩
  cases t with
  | none => exact absurd ht (by show ¬ (("none" : Str) = "both"); decide)
  | all => exact absurd ht (by show ¬ (("all" : Str) = "both"); decide)
  | keep => exact absurd ht (by show ¬ (("keep" : Str) = "both"); decide)
  | move _ _ => exact absurd ht (by show ¬ (("move" : Str) = "both"); decide)
  | eat _ _ _ => exact absurd ht (by show ¬ (("eat" : Str) = "both"); decide)
  | grow _ _ _ => exact absurd ht (by show ¬ (("grow" : Str) = "both"); decide)
  | both a b =>
    have hd : max (dep a) (dep b) + 1 ≤ k := hd
    exact rs_ret (es_call (z := .im (shD (bothF (doF a s) (doF b s)))) (ea_cons (es_done (es_fld (z := plV K a) (es_var (x := plV K (.both a b)) rfl rfl) (fun v H h => by obtain ⟨a, dx, u, x, e, ea, h1, h2⟩ := h; exact ⟨a, _, dx, _, u, e, ea, T.cls 107 (x := "Both") rfl, T.noat 124 (x := "Both") (f := "one") rfl, lk_here, h1⟩)) (es_im rfl) (hS a s (by omega) ho.1.1)) (ea_cons (es_done (es_fld (z := plV K b) (es_var (x := plV K (.both a b)) rfl rfl) (fun v H h => by obtain ⟨a, dx, u, x, e, ea, h1, h2⟩ := h; exact ⟨a, _, dx, _, x, e, ea, T.cls 107 (x := "Both") rfl, T.noat 125 (x := "Both") (f := "other") rfl, (lk_past (by decide)).trans lk_here, h2⟩)) (es_im rfl) (hS b s (by omega) ho.1.2)) ea_nil)) ⟨doF a s, doF b s, rfl, ho.2.1, rfl⟩)
  | either _ _ => exact absurd ht (by show ¬ (("either" : Str) = "both"); decide)


/-! ### Either.made -/
theorem sc_Either_made : FnScope ["self", "shape"] ["self", "shape"] (defScope s_Either_made) := ⟨rfl, rfl, rfl, by decide +kernel, rfl, by decide +kernel, by decide +kernel⟩
def t_Either_made (K : PySem.W.Frag) (P : Program) (w : World) (S : List SV → SV → Prop) : TS := tRet (tCall (spD R_either) [] E0 (tCons (tMP "done" (tbD K S) (tFld K (tVar 0) "one") (tCons (tVar 1) (tNil))) (tCons (tMP "done" (tbD K S) (tFld K (tVar 0) "other") (tCons (tVar 1) (tNil))) (tNil))))
theorem step_Either_made (T : Tx K mg) {S R : List SV → SV → Prop} {j : Nat} (hj : 9 ≤ j) (OD : Ok P w K mg base CX0 j d_Plan_done ["self", "shape"] (spD S)) (len : ∀ xs z, R xs z → xs.length = 2)
    (run : ∀ xs z, R xs z → RunS (t_Either_made K P w S) (xs.map some ++ List.replicate (2 - xs.length) none) (.rt z)) : Ok P w K mg base CX0 (j + 1) d_Either_made ["self", "shape"] (spD R) := by
  obtain ⟨fd, F⟩ := T.fn 39 d_Either_made rfl
  exact ok_data (t := t_Either_made K P w S) F sc_Either_made (fun _ _ _ _ _ _ us hl => match us, hl with | [_, _], _ => rfl) len (by decide) (fun cdv A outer s H E hr => pss_one (ps_ret (pe_own (O_either T) (hr.mono (by first | decide | omega)) rfl (T.glo 7 rfl) pass0 (pa_cons (pe_mp (pe_fld (pv 0) rfl) (mok_done T OD (hr.mono (by omega))) (pa_cons (pv 1) (pa_nil))) (pa_cons (pe_mp (pe_fld (pv 0) rfl) (mok_done T OD (hr.mono (by omega))) (pa_cons (pv 1) (pa_nil))) (pa_nil)))))) (fun xs z h => .rt (run xs z h))
theorem run_Either_made (T : Tx K mg) {S : List SV → SV → Prop} {k : Nat} (hS : ∀ (u : Tree) (s : Shp), dep u + 1 ≤ k → doOk u s → S [plV K u, .im (shD s)] (.im (shD (doF u s)))) : ∀ xs z, R_made K "either" k xs z → RunS (t_Either_made K P w S) (xs.map some ++ List.replicate (2 - xs.length) none) (.rt z) := by
  rintro xs z ⟨t, s, rfl, ht, hd, ho, rfl⟩
  cases t with
  | none => exact absurd ht (by show ¬ (("none" : Str) = "either"); decide)
  | all => exact absurd ht (by show ¬ (("all" : Str) = "either"); decide)
  | keep => exact absurd ht (by show ¬ (("keep" : Str) = "either"); decide)
  | move _ _ => exact absurd ht (by show ¬ (("move" : Str) = "either"); decide)
  | eat _ _ _ => exact absurd ht (by show ¬ (("eat" : Str) = "either"); decide)
  | grow _ _ _ => exact absurd ht (by show ¬ (("grow" : Str) = "either"); decide)
  | both _ _ => exact absurd ht (by show ¬ (("both" : Str) = "either"); decide)
  | either a b =>
    have hd : max (dep a) (dep b) + 1 ≤ k := hd
    exact rs_ret (es_call (z := .im (shD (eitherF (doF a s) (doF b s)))) (ea_cons (es_done (es_fld (z := plV K a) (es_var (x := plV K (.either a b)) rfl rfl) (fun v H h => by obtain ⟨a, dx, u, x, e, ea, h1, h2⟩ := h; exact ⟨a, _, dx, _, u, e, ea, T.cls 109 (x := "Either") rfl, T.noat 127 (x := "Either") (f := "one") rfl, lk_here, h1⟩)) (es_im rfl) (hS a s (by omega) ho.1.1)) (ea_cons (es_done (es_fld (z := plV K b) (es_var (x := plV K (.either a b)) rfl rfl) (fun v H h => by obtain ⟨a, dx, u, x, e, ea, h1, h2⟩ := h; exact ⟨a, _, dx, _, x, e, ea, T.cls 109 (x := "Either") rfl, T.noat 128 (x := "Either") (f := "other") rfl, (lk_past (by decide)).trans lk_here, h2⟩)) (es_im rfl) (hS b s (by omega) ho.1.2)) ea_nil)) ⟨doF a s, doF b s, rfl, ho.2.1, rfl⟩)


theorem rm_move {T0 : Tx K mg} : True := trivial
/-- what the methods made keep -/
structure MadeOk (P : Program) (w : World) (K : PySem.W.Frag) (mg : Str → Option Value) (base : Heap) (j : Nat) (Rm : Str → List SV → SV → Prop) : Prop where
  keep : Ok P w K mg base CX0 j d_Plan_made ["self", "shape"] (spD (Rm "keep"))
  none : Ok P w K mg base CX0 j d_Nothing_made ["self", "shape"] (spD (Rm "none"))
  all : Ok P w K mg base CX0 j d_Everything_made ["self", "shape"] (spD (Rm "all"))
  move : Ok P w K mg base CX0 j d_Move_made ["self", "shape"] (spD (Rm "move"))
  eat : Ok P w K mg base CX0 j d_Eat_made ["self", "shape"] (spD (Rm "eat"))
  grow : Ok P w K mg base CX0 j d_Grow_made ["self", "shape"] (spD (Rm "grow"))
  both : Ok P w K mg base CX0 j d_Both_made ["self", "shape"] (spD (Rm "both"))
  either : Ok P w K mg base CX0 j d_Either_made ["self", "shape"] (spD (Rm "either"))
theorem mok_made {X : Cx} (T : Tx K mg) {l : Nat} {Rm : Str → List SV → SV → Prop} (O : MadeOk P w K mg base l Rm) (hr : Room l X.A) (ex : X.prog = P ∧ X.w = w ∧ X.K = K ∧ X.mg = mg ∧ X.base = base := by exact ⟨rfl, rfl, rfl, rfl, rfl⟩) : ∀ C sp, tbM K Rm C sp → MOk X "made" C sp := by
  obtain ⟨rfl, rfl, rfl, rfl, rfl⟩ := ex
  rintro C sp ⟨t, rfl, rfl⟩
  cases t
  · exact .of O.none (cls_of T .none) (T.meth 141 (x := "Nothing") (m := "made") rfl) hr
  · exact .of O.all (cls_of T .all) (T.meth 145 (x := "Everything") (m := "made") rfl) hr
  · exact .of O.keep (cls_of T .keep) (by have h := T.meth 137 (x := "Keep") (m := "made") rfl; rw [T.same 16 (c := "Keep") (d := "Plan") (m := "made") rfl] at h; exact h) hr
  · exact .of O.move (cls_of T (.move _ _)) (T.meth 149 (x := "Move") (m := "made") rfl) hr
  · exact .of O.eat (cls_of T (.eat _ _ _)) (T.meth 153 (x := "Eat") (m := "made") rfl) hr
  · exact .of O.grow (cls_of T (.grow _ _ _)) (T.meth 157 (x := "Grow") (m := "made") rfl) hr
  · exact .of O.both (cls_of T (.both _ _)) (T.meth 161 (x := "Both") (m := "made") rfl) hr
  · exact .of O.either (cls_of T (.either _ _)) (T.meth 165 (x := "Either") (m := "made") rfl) hr
theorem sc_Plan_done : FnScope ["self", "shape", "told"] ["self", "shape"] (defScope s_Plan_done) := ⟨rfl, rfl, rfl, by decide +kernel, rfl, by decide +kernel, by decide +kernel⟩
def t_Plan_done (K : PySem.W.Frag) (P : Program) (w : World) (Rm : Str → List SV → SV → Prop) : TS := tSeq (tAsg (tMP "made" (tbM K Rm) (tVar 0) (tCons (tVar 1) (tNil))) (gName 2)) (tSeq (tIfS (tTest (tOp (rI0 fun i j => .bl (decide (j < i))) (tCB (xLen K) (tCons (tOp (rIx K) (tVar 2) (tC (.int 0))) (tNil))) (tC (.int 2000)))) (tNever) (tNext)) (tRet (tVar 2)))
theorem step_Plan_done (T : Tx K mg) {Rm : Str → List SV → SV → Prop} {R : List SV → SV → Prop} {j : Nat} (OM : MadeOk P w K mg base j Rm) (len : ∀ xs z, R xs z → xs.length = 2)
    (run : ∀ xs z, R xs z → RunS (t_Plan_done K P w Rm) (xs.map some ++ List.replicate (3 - xs.length) none) (.rt z)) : Ok P w K mg base CX0 (j + 1) d_Plan_done ["self", "shape"] (spD R) := by
  obtain ⟨fd, F⟩ := T.fn 25 d_Plan_done rfl
  exact ok_data (t := t_Plan_done K P w Rm) F sc_Plan_done (fun _ _ _ _ _ _ us hl => match us, hl with | [_, _], _ => rfl) len (by decide) (fun cdv A outer s H E hr => pss_cons (ps_set (i := 2) sc_Plan_done.nd rfl (by first | exact Or.inl rfl | exact Or.inr rfl) (pe_mp (pv 0) (mok_made T OM (hr.mono (by omega))) (pa_cons (pv 1) (pa_nil)))) (pss_cons (ps_if (pt_cmpR op_gt (pe_callB r_len rfl (T.free 63 rfl) boot_len (pa_cons (pe_ix ix_seq (pv 2) (pe_int) (fun _ _ => rfl)) (pa_nil))) (pe_gint rfl (T.int 84 rfl)) (nomark _)) (pss_one (ps_never)) (pss_nil)) (pss_one (ps_ret (pv 2))))) (fun xs z h => .rt (run xs z h))
theorem run_Plan_done {Rm : Str → List SV → SV → Prop} {k : Nat} (hS : ∀ (u : Tree) (s : Shp), dep u ≤ k → doOk u s → Rm (tagF u) [plV K u, .im (shD s)] (.im (shD (doF u s)))) : ∀ xs z, R_done K k xs z → RunS (t_Plan_done K P w Rm) (xs.map some ++ List.replicate (3 - xs.length) none) (.rt z) := by
  rintro xs z ⟨t, s, rfl, hd, ho, rfl⟩
  refine rs_seq (rs_asg (x := .im (shD (doF t s))) (es_mp (x := plV K t) (R := Rm (tagF t)) (es_var (x := plV K t) rfl rfl) rfl (fun v H h => by
    obtain ⟨a, dx, fs, e, ea, en⟩ := PlanAt.cls h
    refine ⟨a, _, dx, fs, e, ea, ⟨t, rfl, rfl⟩, lk_none ?_⟩
    rw [en]
    exact no_made t) (ea_cons (es_im rfl) ea_nil) (hS t s hd ho)))
    (rs_ifNo (et_to (decide_eq_false ?_) (et_test (es_op (es_cb (ea_cons (es_op (z := .im (csD (doF t s).1)) (es_im rfl) es_int (s_ixT rfl)) ea_nil) (c_lenT (ds := (doF t s).1.map cD))) es_int s_gt))) (rs_ret (es_im rfl)))
  rw [List.length_map]
  have := doOk_len ho
  omega
theorem no_Plan_done (T : Tx K mg) (j : Nat) : Ok P w K mg base CX0 j d_Plan_done ["self", "shape"] (spD fun _ _ => False) := by
  obtain ⟨fd, F⟩ := T.fn 25 d_Plan_done rfl
  exact ok_no F (fun _ _ _ _ _ _ us hl => match us, hl with | [_, _], _ => rfl)
theorem made_all (T : Tx K mg) {S : List SV → SV → Prop} {j k : Nat} (hj : 9 ≤ j) (OD : Ok P w K mg base CX0 j d_Plan_done ["self", "shape"] (spD S)) (hS : ∀ (u : Tree) (s : Shp), dep u + 1 ≤ k → doOk u s → S [plV K u, .im (shD s)] (.im (shD (doF u s)))) : MadeOk P w K mg base (j + 1) (fun g => R_made K g k) where
  keep := step_Plan_made T hj OD (len_made "keep" k) (run_Plan_made hS)
  none := step_Nothing_made T hj OD (len_made "none" k) (run_Nothing_made hS)
  all := step_Everything_made T hj OD (len_made "all" k) (run_Everything_made hS)
  move := step_Move_made T hj OD (len_made "move" k) (run_Move_made T hS)
  eat := step_Eat_made T hj OD (len_made "eat" k) (run_Eat_made T hS)
  grow := step_Grow_made T hj OD (len_made "grow" k) (run_Grow_made T hS)
  both := step_Both_made T hj OD (len_made "both" k) (run_Both_made T hS)
  either := step_Either_made T hj OD (len_made "either" k) (run_Either_made T hS)
theorem O_done (T : Tx K mg) : ∀ k : Nat, Ok P w K mg base CX0 (2 * k + 11) d_Plan_done ["self", "shape"] (spD (R_done K k))
  | 0 => step_Plan_done T (made_all (k := 0) T (j := 9) (by decide) (no_Plan_done T 9) (fun u s h => absurd h (by omega))) (len_done 0) (run_Plan_done fun u s h ho => ⟨u, s, rfl, rfl, h, ho, rfl⟩)
  | k + 1 => step_Plan_done T (made_all (k := k + 1) T (j := 2 * k + 11) (by omega) (O_done T k) (fun u s h ho => ⟨u, s, rfl, by omega, ho, rfl⟩)) (len_done (k + 1)) (run_Plan_done fun u s h ho => ⟨u, s, rfl, rfl, h, ho, rfl⟩)
end K91
/-! ==== K13 -/
set_option maxRecDepth 100000
set_option maxHeartbeats 4000000
namespace K91
open PySem PySem.Spec PyProof.Rows L2 SG DL
variable {P : Program} {w : World} {K : PySem.W.Frag} {mg : Str → Option Value} {base : Heap}
theorem ok_v {d : He.DefD} {fd : FuncData} {N ps : List Str} {k : Nat} {sp : Sp} {t : TS} (F : FunD K d.name d.qual d.params d.body d.scope [] [] (He.fAd K d.at_) fd) (sc : FnScope N ps d.scope)
    (hbind : ∀ (kV doc pm : Value) (an : Option Addr) (cdv ct : Value) (us : List Value), us.length = ps.length → bindArgs (PySem.W.fnOf d.name d.qual d.params d.body d.scope .none kV doc pm an cdv ct) { pos := us } = pure (ps.zip us))
    (len : ∀ vs H Q E, sp vs H Q E → vs.length = ps.length)
    (hb : ∀ (cdv : Value) (A : Around) (outer : List Env) (s : Shared) (H : Hp) (E : XK), Room k (A.deeper (envOfC d.qual d.scope s.heap.objs.size (He.fAd K d.at_) cdv)) → PSs (cxOf CX0 P w K mg base N d.qual d.scope (He.fAd K d.at_) cdv A outer s H E).nox d.body t)
    (hr : ∀ vs H Q E, sp vs H Q E → t { nx := fun _ H' => Q .non H', rt := Q } (L2.start N vs) H) : Ok P w K mg base CX0 (k + 1) d ps sp :=
  ⟨fd, F.ok sc len (fun cdv A outer s H vs Q E hR h => ⟨t, PSs.nox (hb cdv A outer s H E hR), hr vs H Q E h⟩), F.bindsN hbind, F.kp⟩
theorem ok_noV {d : He.DefD} {fd : FuncData} {ps : List Str} {k : Nat} (F : FunD K d.name d.qual d.params d.body d.scope [] [] (He.fAd K d.at_) fd)
    (hbind : ∀ (kV doc pm : Value) (an : Option Addr) (cdv ct : Value) (us : List Value), us.length = ps.length → bindArgs (PySem.W.fnOf d.name d.qual d.params d.body d.scope .none kV doc pm an cdv ct) { pos := us } = pure (ps.zip us)) : Ok P w K mg base CX0 k d ps (fun _ _ _ _ => False) :=
  ⟨fd, ⟨fun vs H Q E h => h.elim, fun A outer s H args us vs Q E hr he hb hv h => h.elim⟩, F.bindsN hbind, F.kp⟩
theorem pe_methO {X : Cx} {CX : CXT} {k : Nat} {C : Addr} {d : He.DefD} {ps : List Str} {sp : Sp} {E : XK} {m : Str} {pos apos : Pos} {e o : Expr} {es : List Expr} {ta : TE} {t : TA} {pl : Sem Bool} (he : PE X o ta) (c : Cls X.K C) (hm : Meth X.K C m (He.fAd X.K d.at_)) (O : Ok X.prog X.w X.K X.mg X.base CX k d ps sp) (hr : Room k X.A) (ha : PA X (e :: es) t) (hx : Passes CX X E := by exact pass0)
    (hst : starEach (e :: es) X.env = (false, eval e X.env) :: starEach es X.env := by rfl) (hpl : (backTo pos (starEach es X.env)).any (·.1) = false := by rfl)
    (ht : eval (.Call (.Attribute o m apos) (e :: es) [] pos) X.env = (do
      let ov ← eval o X.env
      standAt apos.atName
      let (f, first) ← holding [ov] (getMethod ov m pl)
      callWith pos f first (backTo pos (starEach (e :: es) X.env)) (backToKw pos (keywordEach [] X.env))) := by rfl) :
    PE X (.Call (.Attribute o m apos) (e :: es) [] pos) (tMeth C m sp [] E ta t) := by
  obtain ⟨fd, F, hb, hk⟩ := O
  exact pe_meth he c hm F hr hb .nil hx ha hst hpl ht
theorem pe_methO0 {X : Cx} {CX : CXT} {k : Nat} {C : Addr} {d : He.DefD} {ps : List Str} {sp : Sp} {E : XK} {m : Str} {pos apos : Pos} {o : Expr} {ta : TE} {pl : Sem Bool} (he : PE X o ta) (c : Cls X.K C) (hm : Meth X.K C m (He.fAd X.K d.at_)) (O : Ok X.prog X.w X.K X.mg X.base CX k d ps sp) (hr : Room k X.A) (hx : Passes CX X E := by exact pass0)
    (ht : eval (.Call (.Attribute o m apos) [] [] pos) X.env = (do
      let ov ← eval o X.env
      standAt apos.atName
      let (f, first) ← holding [ov] (getMethod ov m pl)
      callWith pos f first (backTo pos (starEach [] X.env)) (backToKw pos (keywordEach [] X.env))) := by rfl) :
    PE X (.Call (.Attribute o m apos) [] [] pos) (tMeth C m sp [] E ta tNil) := by
  obtain ⟨fd, F, hb, hk⟩ := O
  exact pe_meth0 he c hm F hr hb .nil hx ht
theorem pe_makeO {X : Cx} {k : Nat} {C : Addr} {d : He.DefD} {ps : List Str} {sp : Sp} {x : Str} {p pos : Pos} {e : Expr} {es : List Expr} {t : TA} (M : Mk X.K C (He.fAd X.K d.at_)) (O : Ok X.prog X.w X.K X.mg X.base CX0 k d ps sp) (hr : Room (k + 1) X.A) (hg : Gl X x) (hm : X.mg x = some (.ref C)) (ha : PA X (e :: es) t)
    (hdb : (x == ("__debug__" : Str)) = false := by decide) (he : starEach (e :: es) X.env = (false, eval e X.env) :: starEach es X.env := by rfl) (hpl : (backTo pos (starEach es X.env)).any (·.1) = false := by rfl) : PE X (.Call (.Name x p) (e :: es) [] pos) (tMake C sp [] E0 t) := by
  obtain ⟨fd, F, hb, hk⟩ := O
  exact pe_make M F hr hg hm hb .nil pass0 ha hdb he hpl
theorem pe_makeO0 {X : Cx} {k : Nat} {C : Addr} {d : He.DefD} {ps : List Str} {sp : Sp} {x : Str} {p pos : Pos} (M : Mk X.K C (He.fAd X.K d.at_)) (O : Ok X.prog X.w X.K X.mg X.base CX0 k d ps sp) (hr : Room (k + 1) X.A) (hg : Gl X x) (hm : X.mg x = some (.ref C))
    (hdb : (x == ("__debug__" : Str)) = false := by decide) : PE X (.Call (.Name x p) [] [] pos) (tMake C sp [] E0 tNil) := by
  obtain ⟨fd, F, hb, hk⟩ := O
  exact pe_make0 M F hr hg hm hb .nil pass0 hdb
theorem put_here {f : Str} {v x : V} {r : List (Str × V)} : putF f v ((f, x) :: r) = (f, v) :: r := if_pos rfl
theorem put_past {f h : Str} {v x : V} {r : List (Str × V)} (e : ¬ h = f) : putF f v ((h, x) :: r) = (h, x) :: putF f v r := if_neg e
theorem put_nil {f : Str} {v : V} : putF f v [] = [(f, v)] := rfl
/-! ### two attributes are set -/
def spI2 (C : Addr) (f1 f2 : Str) : Sp := fun vs H Q _ => ∃ (p dx : Addr) (u x : V), vs = [.ref p, u, x] ∧ H p = some (.ins C dx []) ∧ ∀ H' : Hp, (∀ a, a ≠ p → H' a = H a) → H' p = some (.ins C dx [(f1, u), (f2, x)]) → Q .non H'
theorem len_I2 {C : Addr} {f1 f2 : Str} : ∀ vs H Q E, spI2 C f1 f2 vs H Q E → vs.length = 3 := by
  rintro vs H Q E ⟨_, _, _, _, rfl, _⟩
  rfl
theorem run_I2 {C : Addr} {f1 f2 : Str} {N : List Str} (hN : N.length = 3) (c : Cls K C) (n1 : NoAttr K C f1) (n2 : NoAttr K C f2) (ne : ¬ f1 = f2) (vs : List V) (H : Hp) (Q : VK) (E : XK) (h : spI2 C f1 f2 vs H Q E) :
    (tSeq (sFld K (tVar 0) (tVar 1) f1) (sFld K (tVar 0) (tVar 2) f2)) { nx := fun _ H' => Q .non H', rt := Q } (L2.start N vs) H := by
  obtain ⟨p, dx, u, x, rfl, hp, q⟩ := h
  refine ⟨u, rfl, _, rfl, p, C, dx, [], rfl, hp, c, n1, (by show 0 < 1000; decide), x, rfl, _, rfl, p, C, dx, _, rfl, upd_same, c, n2, (by show 1 < 1000; decide), q _ (fun a ha => by rw [upd_ne ha, upd_ne ha]) ?_⟩
  rw [upd_same, put_nil, put_past ne, put_nil]
/-- C(u, x) -/
theorem es_make2 {ρ : Rho} {t : TA} {C : Addr} {f1 f2 : Str} {x1 x2 : SV} {Po : V → Hp → Prop} {m} (h : EvA t ρ [x1, x2]) (hp : ∀ H a dx u x, H a = some (.ins C dx [(f1, u), (f2, x)]) → SH H H u x1 → SH H H x x2 → Po (.ref a) H) (m1 : x1.arg = x1) (m2 : x2.arg = x2) (p1 : x1.plain = true := by rfl) (p2 : x2.plain = true := by rfl) :
    EvS (tMake C (spI2 C f1 f2) [] E0 t) ρ (.ob Po m) := fun B σ H Q S q => h B σ H _ S fun vs H1 g1 r1 => by
  intro x dx hx hdx hne
  cases r1 with
  | cons ra rb =>
    cases rb with
    | cons rb rc =>
      cases rc
      refine ⟨x, dx, _, _, rfl, upd_same, fun H' same hp' => ⟨rfl, ?_⟩⟩
      have g2 : Gr H1 H' := fun a o e => by
        have e1 : a ≠ x := fun z => by rw [z, hx] at e; cases e
        have e2 : a ≠ dx := fun z => by rw [z, hdx] at e; cases e
        rw [same a e1, upd_ne e1, upd_ne e2]
        exact e
      refine q _ H' (g1.trans g2) (hp _ _ _ _ _ hp' ?_ ?_)
      · have := (ra.gr g2).asArg p1
        rwa [m1] at this
      · have := (rb.gr g2).asArg p2
        rwa [m2] at this
theorem es_mk0 {ρ : Rho} {C : Addr} {Po : V → Hp → Prop} {m} (hp : ∀ H a dx, H a = some (.ins C dx []) → Po (.ref a) H) : EvS (tMk0 C) ρ (.ob Po m) := fun B σ H Q S q => by
  intro x dx hx hdx hne
  refine q _ _ (fun a o e => ?_) (hp _ _ _ upd_same)
  rw [upd_ne (fun z => by rw [z, hx] at e; cases e), upd_ne (fun z => by rw [z, hdx] at e; cases e)]
  exact e

theorem sc_Move_init : FnScope ["self", "step", "plan"] ["self", "step", "plan"] (defScope s_Move_init) := ⟨rfl, rfl, rfl, by decide +kernel, rfl, by decide +kernel, by decide +kernel⟩
def t_Move_init (K : PySem.W.Frag) (P : Program) (w : World) : TS := tSeq (sFld K (tVar 0) (tVar 1) "step") (sFld K (tVar 0) (tVar 2) "plan")
theorem O_Move_init (T : Tx K mg) : Ok P w K mg base CX0 1 d_Move_init ["self", "step", "plan"] (spI2 (He.ga K "Move") "step" "plan") := by
  obtain ⟨fd, F⟩ := T.fn 30 d_Move_init rfl
  exact ok_v (t := t_Move_init K P w) F sc_Move_init (fun _ _ _ _ _ _ us hl => match us, hl with | [_, _, _], _ => rfl) len_I2 (fun cdv A outer s H E hr => pss_cons (ps_fld (pv 0) (pv 1) rfl) (pss_one (ps_fld (pv 0) (pv 2) rfl))) (run_I2 rfl (T.cls 101 (x := "Move") rfl) (T.noat 115 (x := "Move") (f := "step") rfl) (T.noat 116 (x := "Move") (f := "plan") rfl) (by decide))
theorem sc_Eat_init : FnScope ["self", "piece", "plan"] ["self", "piece", "plan"] (defScope s_Eat_init) := ⟨rfl, rfl, rfl, by decide +kernel, rfl, by decide +kernel, by decide +kernel⟩
def t_Eat_init (K : PySem.W.Frag) (P : Program) (w : World) : TS := tSeq (sFld K (tVar 0) (tVar 1) "piece") (sFld K (tVar 0) (tVar 2) "plan")
theorem O_Eat_init (T : Tx K mg) : Ok P w K mg base CX0 1 d_Eat_init ["self", "piece", "plan"] (spI2 (He.ga K "Eat") "piece" "plan") := by
  obtain ⟨fd, F⟩ := T.fn 32 d_Eat_init rfl
  exact ok_v (t := t_Eat_init K P w) F sc_Eat_init (fun _ _ _ _ _ _ us hl => match us, hl with | [_, _, _], _ => rfl) len_I2 (fun cdv A outer s H E hr => pss_cons (ps_fld (pv 0) (pv 1) rfl) (pss_one (ps_fld (pv 0) (pv 2) rfl))) (run_I2 rfl (T.cls 103 (x := "Eat") rfl) (T.noat 118 (x := "Eat") (f := "piece") rfl) (T.noat 119 (x := "Eat") (f := "plan") rfl) (by decide))
theorem sc_Grow_init : FnScope ["self", "piece", "plan"] ["self", "piece", "plan"] (defScope s_Grow_init) := ⟨rfl, rfl, rfl, by decide +kernel, rfl, by decide +kernel, by decide +kernel⟩
def t_Grow_init (K : PySem.W.Frag) (P : Program) (w : World) : TS := tSeq (sFld K (tVar 0) (tVar 1) "piece") (sFld K (tVar 0) (tVar 2) "plan")
theorem O_Grow_init (T : Tx K mg) : Ok P w K mg base CX0 1 d_Grow_init ["self", "piece", "plan"] (spI2 (He.ga K "Grow") "piece" "plan") := by
  obtain ⟨fd, F⟩ := T.fn 34 d_Grow_init rfl
  exact ok_v (t := t_Grow_init K P w) F sc_Grow_init (fun _ _ _ _ _ _ us hl => match us, hl with | [_, _, _], _ => rfl) len_I2 (fun cdv A outer s H E hr => pss_cons (ps_fld (pv 0) (pv 1) rfl) (pss_one (ps_fld (pv 0) (pv 2) rfl))) (run_I2 rfl (T.cls 105 (x := "Grow") rfl) (T.noat 121 (x := "Grow") (f := "piece") rfl) (T.noat 122 (x := "Grow") (f := "plan") rfl) (by decide))
theorem sc_Both_init : FnScope ["self", "one", "other"] ["self", "one", "other"] (defScope s_Both_init) := ⟨rfl, rfl, rfl, by decide +kernel, rfl, by decide +kernel, by decide +kernel⟩
def t_Both_init (K : PySem.W.Frag) (P : Program) (w : World) : TS := tSeq (sFld K (tVar 0) (tVar 1) "one") (sFld K (tVar 0) (tVar 2) "other")
theorem O_Both_init (T : Tx K mg) : Ok P w K mg base CX0 1 d_Both_init ["self", "one", "other"] (spI2 (He.ga K "Both") "one" "other") := by
  obtain ⟨fd, F⟩ := T.fn 36 d_Both_init rfl
  exact ok_v (t := t_Both_init K P w) F sc_Both_init (fun _ _ _ _ _ _ us hl => match us, hl with | [_, _, _], _ => rfl) len_I2 (fun cdv A outer s H E hr => pss_cons (ps_fld (pv 0) (pv 1) rfl) (pss_one (ps_fld (pv 0) (pv 2) rfl))) (run_I2 rfl (T.cls 107 (x := "Both") rfl) (T.noat 124 (x := "Both") (f := "one") rfl) (T.noat 125 (x := "Both") (f := "other") rfl) (by decide))
theorem sc_Either_init : FnScope ["self", "one", "other"] ["self", "one", "other"] (defScope s_Either_init) := ⟨rfl, rfl, rfl, by decide +kernel, rfl, by decide +kernel, by decide +kernel⟩
def t_Either_init (K : PySem.W.Frag) (P : Program) (w : World) : TS := tSeq (sFld K (tVar 0) (tVar 1) "one") (sFld K (tVar 0) (tVar 2) "other")
theorem O_Either_init (T : Tx K mg) : Ok P w K mg base CX0 1 d_Either_init ["self", "one", "other"] (spI2 (He.ga K "Either") "one" "other") := by
  obtain ⟨fd, F⟩ := T.fn 38 d_Either_init rfl
  exact ok_v (t := t_Either_init K P w) F sc_Either_init (fun _ _ _ _ _ _ us hl => match us, hl with | [_, _, _], _ => rfl) len_I2 (fun cdv A outer s H E hr => pss_cons (ps_fld (pv 0) (pv 1) rfl) (pss_one (ps_fld (pv 0) (pv 2) rfl))) (run_I2 rfl (T.cls 109 (x := "Either") rfl) (T.noat 127 (x := "Either") (f := "one") rfl) (T.noat 128 (x := "Either") (f := "other") rfl) (by decide))end K91
/-! ==== K14 -/
set_option maxRecDepth 100000
set_option maxHeartbeats 4000000
namespace K91
open PySem PySem.Spec PyProof.Rows L2 SG DL
variable {P : Program} {w : World} {K : PySem.W.Frag} {mg : Str → Option Value} {base : Heap}
/-! ### the reading: its attributes; what else is as before -/
def rF (l : V) (k many : Nat) : List (Str × V) := [("row", l), ("at", .int k), ("many", .int many)]
def SameB (a : Addr) (H H' : Hp) : Prop := ∀ b o, H b = some o → b ≠ a → H' b = some o
theorem SameB.refl (a : Addr) (H : Hp) : SameB a H H := fun _ _ h _ => h
theorem SameB.trans {a : Addr} {H H1 H2 : Hp} (h : SameB a H H1) (k : SameB a H1 H2) : SameB a H H2 := fun b o e n => k b o (h b o e n) n
theorem SameB.upd (a : Addr) (H : Hp) (o : HO) : SameB a H (upd H a o) := fun b u e n => by rw [upd_ne n]; exact e
theorem SameB.gr {a : Addr} {H H' : Hp} (g : Gr H H') : SameB a H H' := fun b o e _ => g b o e
theorem rF_row {l : V} {k many : Nat} : (rF l k many).lookup ("row" : Str) = some l := lk_here
theorem rF_at {l : V} {k many : Nat} : (rF l k many).lookup ("at" : Str) = some (.int k) := (lk_past (by decide)).trans lk_here
theorem rF_many {l : V} {k many : Nat} : (rF l k many).lookup ("many" : Str) = some (.int many) := (lk_past (by decide)).trans ((lk_past (by decide)).trans lk_here)
theorem rF_no {l : V} {k many : Nat} {m : Str} (h1 : (m == ("row" : Str)) = false) (h2 : (m == ("at" : Str)) = false) (h3 : (m == ("many" : Str)) = false) : (rF l k many).lookup m = none := (lk_past h1).trans ((lk_past h2).trans ((lk_past h3).trans rfl))
theorem rF_putAt {l : V} {k many : Nat} : putF "at" (.int ((k : Int) + 1)) (rF l k many) = rF l (k + 1) many := (put_past (by decide)).trans (congrArg _ put_here)
theorem rF_putMany {l : V} {k many : Nat} : putF "many" (.int ((many : Int) + 1)) (rF l k many) = rF l k (many + 1) := (put_past (by decide)).trans (congrArg _ ((put_past (by decide)).trans (congrArg _ put_here)))
def Rd (K : PySem.W.Frag) (ws : List Str) (k many : Nat) (a dx l : Addr) (H : Hp) : Prop := H a = some (.ins (He.ga K "Reading") dx (rF (.ref l) k many)) ∧ H l = some (.lst (ws.map V.str))
theorem Rd.ne {ws : List Str} {k many : Nat} {a dx l : Addr} {H : Hp} (h1 : H a = some (.ins (He.ga K "Reading") dx (rF (.ref l) k many))) (h2 : H l = some (.lst (ws.map V.str))) : l ≠ a := fun z => by
  rw [z, h1] at h2
  cases h2
/-- the reading stays where all stays -/
theorem Rd.gr {ws : List Str} {k many : Nat} {a dx l : Addr} {H H' : Hp} (h : Rd K ws k many a dx l H) (g : Gr H H') : Rd K ws k many a dx l H' := ⟨g _ _ h.1, g _ _ h.2⟩
theorem ev_fld {σ : L2.St} {H : Hp} {Q : VK} {i : Nat} {a C dx : Addr} {fs : List (Str × V)} {v : V} {f : Str} (h0 : σ[i]? = some (some (.ref a))) (ha : H a = some (.ins C dx fs)) (c : Cls K C) (n : NoAttr K C f) (l : fs.lookup f = some v) (q : Q v H) : tFld K (tVar i) f σ H Q := ⟨_, h0, a, C, dx, fs, v, rfl, ha, c, n, l, q⟩
theorem ite_n {p : Prop} [Decidable p] {A C : Prop} (h : ¬ p) (hc : C) : if decide p = true then A else C := by rw [decide_eq_false h]; exact iteF hc
theorem ite_y {p : Prop} [Decidable p] {A C : Prop} (h : p) (ha : A) : if decide p = true then A else C := by rw [decide_eq_true h]; exact iteT ha
def spNW (K : PySem.W.Frag) : Sp := fun vs H Q _ => ∃ (a dx l : Addr) (ws : List Str) (k many : Nat) (x : Str), vs = [.ref a] ∧ Rd K ws k many a dx l H ∧ ws[k]? = some x ∧ ws.length < 100000 ∧ ∀ H', SameB a H H' → Rd K ws (k + 1) many a dx l H' → Q (.str x) H'
def spNN (K : PySem.W.Frag) : Sp := fun vs H Q _ => ∃ (a dx l : Addr) (ws : List Str) (k many : Nat) (i lo hi : Int), vs = [.ref a, .int lo, .int hi] ∧ Rd K ws k many a dx l H ∧ ws[k]? = some (numT i) ∧ ws.length < 100000 ∧ (i.natAbs < 10 ^ 7 ∧ lo ≤ i ∧ i ≤ hi) ∧ ∀ H', SameB a H H' → Rd K ws (k + 1) many a dx l H' → Q (.int i) H'
def spNS (K : PySem.W.Frag) : Sp := fun vs H Q _ => ∃ (a dx l : Addr) (ws : List Str) (k many : Nat) (c : Cell), vs = [.ref a] ∧ Rd K ws k many a dx l H ∧ ws[k]? = some (numT c.1) ∧ ws[k + 1]? = some (numT c.2) ∧ ws.length < 100000 ∧ smallC c = true ∧ ∀ v H', SameB a H H' → Rd K ws (k + 2) many a dx l H' → Im H' v (cD c) → Q v H'

/-! ### Reading.next_word -/
theorem sc_Reading_next_word : FnScope ["self"] ["self"] (defScope s_Reading_next_word) := ⟨rfl, rfl, rfl, by decide +kernel, rfl, by decide +kernel, by decide +kernel⟩
def t_Reading_next_word (K : PySem.W.Frag) (P : Program) (w : World) : TS := tSeq (tIfS (tTest (tOp (rI0 fun i j => .bl (decide (j ≤ i))) (tFld K (tVar 0) "at") (tCB (xLen K) (tCons (tFld K (tVar 0) "row") (tNil))))) (tNever) (tNext)) (tSeq (sFld K (tVar 0) (tOp (xAdd K) (tFld K (tVar 0) "at") (tC (.int 1))) "at") (tRet (tOp (rIx K) (tFld K (tVar 0) "row") (tOp (rI0 fun i j => .int (i - j)) (tFld K (tVar 0) "at") (tC (.int 1))))))
theorem len_Reading_next_word : ∀ vs H Q E, spNW K vs H Q E → vs.length = 1 := by
  rintro vs H Q E ⟨_, _, _, _, _, _, _, rfl, _⟩
  rfl
theorem run_Reading_next_word (T : Tx K mg) (vs : List V) (H : Hp) (Q : VK) (E : XK) (h : spNW K vs H Q E) : t_Reading_next_word K P w { nx := fun _ H' => Q .non H', rt := Q } (L2.start ["self"] vs) H := by
  obtain ⟨a, dx, l, ws, k, many, x, rfl, ⟨hA, hL⟩, hx, hl, q⟩ := h
  have kl : k < ws.length := (List.getElem?_eq_some_iff.mp hx).1
  have ll := Rd.ne hA hL
  refine ⟨_, rfl, a, _, dx, _, _, rfl, hA, (T.cls 111 (x := "Reading") rfl), (T.noat 131 (x := "Reading") (f := "at") rfl), rF_at, _, rfl, a, _, dx, _, _, rfl, hA, (T.cls 111 (x := "Reading") rfl), (T.noat 130 (x := "Reading") (f := "row") rfl), rF_row, .ref l, (ws.map V.str).length, rfl, .inl ⟨ws.map V.str, SqL.of hL, rfl⟩, _, _, rfl, rfl, _, rfl, ite_n (by rw [List.length_map]; omega) ?_⟩
  refine ⟨_, rfl, a, _, dx, _, _, rfl, hA, (T.cls 111 (x := "Reading") rfl), (T.noat 131 (x := "Reading") (f := "at") rfl), rF_at, .inl (.inl ⟨_, _, rfl, rfl, _, rfl, a, _, dx, _, rfl, hA, (T.cls 111 (x := "Reading") rfl), (T.noat 131 (x := "Reading") (f := "at") rfl), by show 3 < 1000; decide, ?_⟩)⟩
  rw [rF_putAt]
  have hL' : upd H a (HO.ins (He.ga K "Reading") dx (rF (.ref l) (k + 1) many)) l = some (.lst (ws.map V.str)) := (upd_ne ll).trans hL
  refine ⟨_, rfl, a, _, dx, _, _, rfl, upd_same, (T.cls 111 (x := "Reading") rfl), (T.noat 130 (x := "Reading") (f := "row") rfl), rF_row, _, rfl, a, _, dx, _, _, rfl, upd_same, (T.cls 111 (x := "Reading") rfl), (T.noat 131 (x := "Reading") (f := "at") rfl), rF_at, _, _, rfl, rfl, .inl ⟨_, _, _, .str x, rfl, rfl, SqL.of hL', ?_, q _ (SameB.upd _ _ _) ⟨upd_same, hL'⟩⟩⟩
  rw [show (((k + 1 : Nat) : Int) - 1) = (k : Int) by omega]
  exact atI_nat (by rw [List.getElem?_map, hx] <;> rfl)
theorem O_Reading_next_word (T : Tx K mg) : Ok P w K mg base CX0 1 d_Reading_next_word ["self"] (spNW K) := by
  obtain ⟨fd, F⟩ := T.fn 48 d_Reading_next_word rfl
  exact ok_v (t := t_Reading_next_word K P w) F sc_Reading_next_word (fun _ _ _ _ _ _ us hl => match us, hl with | [_], _ => rfl) len_Reading_next_word (fun cdv A outer s H E hr => pss_cons (ps_if (pt_cmpR op_ge (pe_fld (pv 0) rfl) (pe_callB r_len rfl (T.free 63 rfl) boot_len (pa_cons (pe_fld (pv 0) rfl) (pa_nil))) (nomark _)) (pss_one (ps_never)) (pss_nil)) (pss_cons (ps_fld (pv 0) (pe_op o_add (pe_fld (pv 0) rfl) (pe_int)) rfl) (pss_one (ps_ret (pe_ix ix_seq (pe_fld (pv 0) rfl) (pe_op op_sub (pe_fld (pv 0) rfl) (pe_int)) (fun _ _ => rfl)))))) (run_Reading_next_word T)

/-! ### Reading.next_number -/
theorem sc_Reading_next_number : FnScope ["self", "low", "high", "place", "number"] ["self", "low", "high"] (defScope s_Reading_next_number) := ⟨rfl, rfl, rfl, by decide +kernel, rfl, by decide +kernel, by decide +kernel⟩
def t_Reading_next_number (K : PySem.W.Frag) (P : Program) (w : World) : TS := tSeq (tAsg (tFld K (tVar 0) "at") (gName 3)) (tSeq (tAsg (tCall (spD R_number_of) [] E0 (tCons (tMeth (He.ga K "Reading") "next_word" (spNW K) [] E0 (tVar 0) tNil) (tNil))) (gName 4)) (tSeq (tIfS (tOr (tB (tIsN (tVar 4))) (tNot (tTest (tChain (rI0 fun i j => .bl (decide (i ≤ j))) (rI0 fun i j => .bl (decide (i ≤ j))) (tVar 1) (tVar 4) (tVar 2))))) (tNever) (tNext)) (tRet (tVar 4))))
theorem len_Reading_next_number : ∀ vs H Q E, spNN K vs H Q E → vs.length = 3 := by
  rintro vs H Q E ⟨_, _, _, _, _, _, _, _, _, rfl, _⟩
  rfl
theorem run_Reading_next_number (T : Tx K mg) (vs : List V) (H : Hp) (Q : VK) (E : XK) (h : spNN K vs H Q E) : t_Reading_next_number K P w { nx := fun _ H' => Q .non H', rt := Q } (L2.start ["self", "low", "high", "place", "number"] vs) H := by
  obtain ⟨a, dx, l, ws, k, many, i, lo, hi, rfl, R, hx, hl, ⟨h1, h2, h3⟩, q⟩ := h
  obtain ⟨hA, hL⟩ := id R
  refine ⟨_, rfl, a, _, dx, _, _, rfl, hA, (T.cls 111 (x := "Reading") rfl), (T.noat 131 (x := "Reading") (f := "at") rfl), rF_at, ?_⟩
  refine ⟨_, rfl, a, dx, _, rfl, hA, rF_no (by decide) (by decide) (by decide), a, dx, l, ws, k, many, numT i, rfl, R, hx, hl, fun H' sm R' => ?_⟩
  refine ⟨[.im (.str (numT i))], .im (.int i), .cons (.str _) .nil, ⟨i, rfl, h1, rfl⟩, fun v H2 gr iv => ?_⟩
  cases Im.int_v iv
  refine ⟨_, rfl, ?_⟩
  refine ⟨false, rfl, iteF ⟨_, rfl, _, rfl, _, _, rfl, rfl, true, congrArg V.bl (decide_eq_true h2), iteT ⟨_, rfl, _, _, rfl, rfl, _, rfl, ?_⟩⟩⟩
  show if (!decide (i ≤ hi)) = true then _ else _
  rw [decide_eq_true h3]
  exact iteF ⟨_, rfl, q H2 (sm.trans (SameB.gr gr)) (R'.gr gr)⟩
theorem O_Reading_next_number (T : Tx K mg) : Ok P w K mg base CX0 3 d_Reading_next_number ["self", "low", "high"] (spNN K) := by
  obtain ⟨fd, F⟩ := T.fn 49 d_Reading_next_number rfl
  exact ok_v (t := t_Reading_next_number K P w) F sc_Reading_next_number (fun _ _ _ _ _ _ us hl => match us, hl with | [_, _, _], _ => rfl) len_Reading_next_number (fun cdv A outer s H E hr => pss_cons (ps_set (i := 3) sc_Reading_next_number.nd rfl (by first | exact Or.inl rfl | exact Or.inr rfl) (pe_fld (pv 0) rfl)) (pss_cons (ps_set (i := 4) sc_Reading_next_number.nd rfl (by first | exact Or.inl rfl | exact Or.inr rfl) (pe_own (O_number_of T) (hr.mono (by first | decide | omega)) rfl (T.glo 29 rfl) pass0 (pa_cons (pe_methO0 (d := d_Reading_next_word) (pv 0) (T.cls 111 (x := "Reading") rfl) (T.meth 169 (x := "Reading") (m := "next_word") rfl) (O_Reading_next_word T) (hr.mono (by first | decide | omega))) (pa_nil)))) (pss_cons (ps_if (PW.pt (pw_or (pt_cmp (pc_isN (pv 4))) (pw_or1 (pt_not (pt_chain op_le op_le (pv 1) (pv 4) (pv 2)))))) (pss_one (ps_never)) (pss_nil)) (pss_one (ps_ret (pv 4)))))) (run_Reading_next_number T)

/-! ### Reading.next_step -/
theorem sc_Reading_next_step : FnScope ["self", "row"] ["self"] (defScope s_Reading_next_step) := ⟨rfl, rfl, rfl, by decide +kernel, rfl, by decide +kernel, by decide +kernel⟩
def t_Reading_next_step (K : PySem.W.Frag) (P : Program) (w : World) : TS := tSeq (tAsg (tMeth (He.ga K "Reading") "next_number" (spNN K) [] E0 (tVar 0) (tCons (tOp (rI0 fun i j => .int (i - j)) (tC (.int 0)) (tC (.int 1000000))) (tCons (tC (.int 1000000)) (tNil)))) (gName 1)) (tRet (tTup (tCons (tVar 1) (tCons (tMeth (He.ga K "Reading") "next_number" (spNN K) [] E0 (tVar 0) (tCons (tOp (rI0 fun i j => .int (i - j)) (tC (.int 0)) (tC (.int 1000000))) (tCons (tC (.int 1000000)) (tNil)))) (tNil)))))
theorem len_Reading_next_step : ∀ vs H Q E, spNS K vs H Q E → vs.length = 1 := by
  rintro vs H Q E ⟨_, _, _, _, _, _, _, rfl, _⟩
  rfl
theorem run_Reading_next_step (T : Tx K mg) (vs : List V) (H : Hp) (Q : VK) (E : XK) (h : spNS K vs H Q E) : t_Reading_next_step K P w { nx := fun _ H' => Q .non H', rt := Q } (L2.start ["self", "row"] vs) H := by
  obtain ⟨a, dx, l, ws, k, many, c, rfl, R, hx, hy, hl, hs, q⟩ := h
  have hs' := small_nat hs
  unfold smallC at hs
  rw [Bool.and_eq_true, decide_eq_true_iff, decide_eq_true_iff] at hs
  obtain ⟨hA, hL⟩ := id R
  refine ⟨_, rfl, a, dx, _, rfl, hA, rF_no (by decide) (by decide) (by decide), _, _, rfl, rfl, a, dx, l, ws, k, many, c.1, -1000000, 1000000, rfl, R, hx, hl, ⟨by omega, by omega, by omega⟩, fun H1 sm1 R1 => ?_⟩
  obtain ⟨hA1, hL1⟩ := id R1
  refine ⟨_, rfl, _, rfl, a, dx, _, rfl, hA1, rF_no (by decide) (by decide) (by decide), _, _, rfl, rfl, a, dx, l, ws, k + 1, many, c.2, -1000000, 1000000, rfl, R1, hy, hl, ⟨by omega, by omega, by omega⟩, fun H2 sm2 R2 => ?_⟩
  refine ⟨by show 2 ≤ sizeLine; rw [sizeLine_eq]; decide, fun p hp => ?_⟩
  have g := Gr.new (.tup [.int c.1, .int c.2]) hp
  exact q _ _ ((sm1.trans sm2).trans (SameB.gr g)) (R2.gr g) (cell_im upd_same)
theorem O_Reading_next_step (T : Tx K mg) : Ok P w K mg base CX0 4 d_Reading_next_step ["self"] (spNS K) := by
  obtain ⟨fd, F⟩ := T.fn 50 d_Reading_next_step rfl
  exact ok_v (t := t_Reading_next_step K P w) F sc_Reading_next_step (fun _ _ _ _ _ _ us hl => match us, hl with | [_], _ => rfl) len_Reading_next_step (fun cdv A outer s H E hr => pss_cons (ps_set (i := 1) sc_Reading_next_step.nd rfl (by first | exact Or.inl rfl | exact Or.inr rfl) (pe_methO (d := d_Reading_next_number) (pv 0) (T.cls 111 (x := "Reading") rfl) (T.meth 170 (x := "Reading") (m := "next_number") rfl) (O_Reading_next_number T) (hr.mono (by first | decide | omega)) (pa_cons (pe_op op_sub (pe_int) (pe_gint rfl (T.int 83 rfl))) (pa_cons (pe_gint rfl (T.int 83 rfl)) (pa_nil))))) (pss_one (ps_ret (pe_tup (pa_cons (pv 1) (pa_cons (pe_methO (d := d_Reading_next_number) (pv 0) (T.cls 111 (x := "Reading") rfl) (T.meth 170 (x := "Reading") (m := "next_number") rfl) (O_Reading_next_number T) (hr.mono (by first | decide | omega)) (pa_cons (pe_op op_sub (pe_int) (pe_gint rfl (T.int 83 rfl))) (pa_cons (pe_gint rfl (T.int 83 rfl)) (pa_nil)))) (pa_nil))))))) (run_Reading_next_step T)
end K91
/-! ==== K15 -/
set_option maxRecDepth 100000
set_option maxHeartbeats 4000000
namespace K91
open PySem PySem.Spec PyProof.Rows L2 SG DL
variable {P : Program} {w : World} {K : PySem.W.Frag} {mg : Str → Option Value} {base : Heap}
/-- l stands in ws from k on -/
def AtW (ws : List Str) (k : Nat) (l : List Str) : Prop := ∀ (j : Nat) (x : Str), l[j]? = some x → ws[k + j]? = some x
theorem AtW.left {ws : List Str} {k : Nat} {l m : List Str} (h : AtW ws k (l ++ m)) : AtW ws k l := fun j x e => h j x (by rw [List.getElem?_append_left (List.getElem?_eq_some_iff.mp e).1]; exact e)
theorem AtW.right {ws : List Str} {k : Nat} {l m : List Str} (h : AtW ws k (l ++ m)) : AtW ws (k + l.length) m := fun j x e => by
  have := h (l.length + j) x (by rw [List.getElem?_append_right (Nat.le_add_right _ _), Nat.add_sub_cancel_left]; exact e)
  rw [Nat.add_assoc]
  exact this
theorem AtW.head {ws : List Str} {k : Nat} {x : Str} {l : List Str} (h : AtW ws k (x :: l)) : ws[k]? = some x := h 0 x rfl
theorem AtW.tail {ws : List Str} {k : Nat} {x : Str} {l : List Str} (h : AtW ws k (x :: l)) : AtW ws (k + 1) l := fun j y e => by
  have := h (j + 1) y e
  rw [show k + 1 + j = k + (j + 1) by omega]
  exact this
theorem AtW.cells {ws : List Str} : ∀ {cs : List Cell} {k i : Nat} {c : Cell}, AtW ws k (cellW cs) → cs[i]? = some c → ws[k + 2 * i]? = some (numT c.1) ∧ ws[k + 2 * i + 1]? = some (numT c.2)
  | [], _, _, _, _, e => by simp at e
  | a :: cs, k, i, c, h, e => by
    have h : AtW ws k (numT a.1 :: numT a.2 :: cellW cs) := h
    cases i with
    | zero =>
      cases e
      exact ⟨h.head, h.tail.head⟩
    | succ i =>
      have := AtW.cells (cs := cs) (k := k + 1 + 1) (i := i) (c := c) h.tail.tail e
      rw [show k + 2 * (i + 1) = k + 1 + 1 + 2 * i by omega]
      exact this
/-! tuples and plans stay where but the reading is changed -/
mutual
theorem im_sb {H H' : Hp} (k : ∀ b vs, H b = some (.tup vs) → H' b = some (.tup vs)) : ∀ {v : V} {d : PyData}, Im H v d → Im H' v d
  | _, _, .non => .non
  | _, _, .bl b => .bl b
  | _, _, .int i => .int i
  | _, _, .str x => .str x
  | _, _, .tup h r => .tup (k _ _ h) (ims_sb k r)
theorem ims_sb {H H' : Hp} (k : ∀ b vs, H b = some (.tup vs) → H' b = some (.tup vs)) : ∀ {vs : List V} {ds : List PyData}, Ims H vs ds → Ims H' vs ds
  | _, _, .nil => .nil
  | _, _, .cons h r => .cons (im_sb k h) (ims_sb k r)
end
theorem Rd.tups {ws : List Str} {k many : Nat} {a dx l : Addr} {H H' : Hp} (h : Rd K ws k many a dx l H) (sm : SameB a H H') : ∀ b vs, H b = some (.tup vs) → H' b = some (.tup vs) := fun b vs e => by
  refine sm b _ e fun z => ?_
  rw [z, h.1] at e
  cases e
theorem Rd.ins {ws : List Str} {k many : Nat} {a dx0 l : Addr} {H H' : Hp} (h : Rd K ws k many a dx0 l H) (sm : SameB a H H') {b C dx : Addr} {fs : List (Str × V)} (e : H b = some (.ins C dx fs)) (hf : fs.length ≤ 2) : H' b = some (.ins C dx fs) := by
  refine sm b _ e fun z => ?_
  rw [z, h.1] at e
  cases e
  exact absurd hf (by show ¬ 3 ≤ 2; decide)
theorem PlanAt.sb {ws : List Str} {k many : Nat} {a dx0 l : Addr} {H H' : Hp} (R : Rd K ws k many a dx0 l H) (sm : SameB a H H') : ∀ {t : Tree} {v : V}, PlanAt K t v H → PlanAt K t v H'
  | .none, _, ⟨b, dx, e, h⟩ => ⟨b, dx, e, R.ins sm h (by decide)⟩
  | .all, _, ⟨b, dx, e, h⟩ => ⟨b, dx, e, R.ins sm h (by decide)⟩
  | .keep, _, ⟨b, dx, e, h⟩ => ⟨b, dx, e, R.ins sm h (by decide)⟩
  | .move _ t, _, ⟨b, dx, u, x, e, h, i, r⟩ => ⟨b, dx, u, x, e, R.ins sm h (by show 2 ≤ 2; decide), im_sb (R.tups sm) i, PlanAt.sb (t := t) R sm r⟩
  | .eat _ _ t, _, ⟨b, dx, u, x, e, h, i, r⟩ => ⟨b, dx, u, x, e, R.ins sm h (by show 2 ≤ 2; decide), im_sb (R.tups sm) i, PlanAt.sb (t := t) R sm r⟩
  | .grow _ _ t, _, ⟨b, dx, u, x, e, h, i, r⟩ => ⟨b, dx, u, x, e, R.ins sm h (by show 2 ≤ 2; decide), im_sb (R.tups sm) i, PlanAt.sb (t := t) R sm r⟩
  | .both p q, _, ⟨b, dx, u, x, e, h, i, r⟩ => ⟨b, dx, u, x, e, R.ins sm h (by show 2 ≤ 2; decide), PlanAt.sb (t := p) R sm i, PlanAt.sb (t := q) R sm r⟩
  | .either p q, _, ⟨b, dx, u, x, e, h, i, r⟩ => ⟨b, dx, u, x, e, R.ins sm h (by show 2 ≤ 2; decide), PlanAt.sb (t := p) R sm i, PlanAt.sb (t := q) R sm r⟩
theorem csL_shaped (cs : List Cell) : SeqAt.shaped (.list (cs.map cD)) = true := by
  have := cDs_depth cs
  simp only [SeqAt.shaped, PyData.canLay0, cDs_lay, PyData.depth, Bool.true_and]
  exact decide_eq_true (by omega)
theorem list_nil_eqv (ds : List PyData) : PyData.eqv (.list ds) (.list []) = ds.isEmpty := by cases ds <;> simp [PyData.eqv, PyData.eqvAll]
theorem lex2_false {c d : Cell} (h : lt2 d c) : Ob.lexAt (fun j => decide (([c.1, c.2] : List Int).getD j 0 = ([d.1, d.2] : List Int).getD j 0)) (fun j => decide (([c.1, c.2] : List Int).getD j 0 ≤ ([d.1, d.2] : List Int).getD j 0)) (decide (([c.1, c.2] : List Int).length ≤ ([d.1, d.2] : List Int).length)) 0 (min ([c.1, c.2] : List Int).length ([d.1, d.2] : List Int).length) = false := by
  unfold lt2 at h
  show (if decide (c.1 = d.1) = true then (if decide (c.2 = d.2) = true then _ else decide (c.2 ≤ d.2)) else decide (c.1 ≤ d.1)) = false
  by_cases e : c.1 = d.1
  · rw [decide_eq_true e, if_pos rfl, decide_eq_false (by omega), if_neg Bool.false_ne_true, decide_eq_false (by omega)]
  · rw [decide_eq_false e, if_neg Bool.false_ne_true, decide_eq_false (by omega)]
theorem ims_last {H : Hp} : ∀ {vs : List V} {ds : List PyData} {d : PyData}, Ims H vs (ds ++ [d]) → ∃ us u, vs = us ++ [u] ∧ Ims H us ds ∧ Im H u d
  | _, [], _, .cons a r => by cases r; exact ⟨[], _, rfl, .nil, a⟩
  | _, e :: ds, _, .cons a r => by
    obtain ⟨us, u, rfl, h1, h2⟩ := ims_last (ds := ds) r
    exact ⟨_ :: us, u, rfl, .cons a h1, h2⟩
theorem rise_lt {cs : List Cell} (h : Rising cs) {j : Nat} {d c : Cell} (hd : cs[j]? = some d) (hc : cs[j + 1]? = some c) : lt2 d c := by
  obtain ⟨l1, e1⟩ := List.getElem?_eq_some_iff.mp hd
  obtain ⟨l2, e2⟩ := List.getElem?_eq_some_iff.mp hc
  rw [← e1, ← e2]
  exact (List.pairwise_iff_getElem.mp h) j (j + 1) l1 l2 (Nat.lt_succ_self j)
def spNP (K : PySem.W.Frag) : Sp := fun vs H Q _ => ∃ (a dx r : Addr) (ws : List Str) (k many : Nat) (cs : List Cell), vs = [.ref a] ∧ Rd K ws k many a dx r H ∧ ws[k]? = some (numT cs.length) ∧ AtW ws (k + 1) (cellW cs) ∧ ws.length < 100000 ∧ (1 ≤ cs.length ∧ cs.length ≤ 3 ∧ Rising cs ∧ cs.all smallC = true) ∧
  ∀ v H', SameB a H H' → Rd K ws (k + 1 + 2 * cs.length) many a dx r H' → Im H' v (csD cs) → Q v H'

/-! ### Reading.next_piece -/
theorem sc_Reading_next_piece : FnScope ["self", "steps", "k", "place", "step"] ["self"] (defScope s_Reading_next_piece) := ⟨rfl, rfl, rfl, by decide +kernel, rfl, by decide +kernel, by decide +kernel⟩
def t_Reading_next_piece (K : PySem.W.Frag) (P : Program) (w : World) : TS := tSeq (tAsg (tLst (tNil)) (gName 1)) (tSeq (tFor (iRng1 (tCons (tMeth (He.ga K "Reading") "next_number" (spNN K) [] E0 (tVar 0) (tCons (tC (.int 1)) (tCons (tC (.int 12)) (tNil)))) (tNil))) (gName 2) (tSeq (tAsg (tFld K (tVar 0) "at") (gName 3)) (tSeq (tAsg (tMeth (He.ga K "Reading") "next_step" (spNS K) [] E0 (tVar 0) tNil) (gName 4)) (tSeq (tIfS (tAnd (tTest (tOp (rNeD K) (tVar 1) (tLst (tNil)))) (tTest (tOp (rLeT K) (tVar 4) (tOp (rIx K) (tVar 1) (tUn (rU fun i => .int (-i)) (tC (.int 1))))))) (tNever) (tNext)) (tDrop (tBM K "list" (rAppend) (tVar 1) (tCons (tVar 4) (tNil)))))))) (tRet (tCB (xTuple K) (tCons (tVar 1) (tNil)))))
theorem len_Reading_next_piece : ∀ vs H Q E, spNP K vs H Q E → vs.length = 1 := by
  rintro vs H Q E ⟨_, _, _, _, _, _, _, rfl, _⟩
  rfl
theorem run_Reading_next_piece (T : Tx K mg) (vs : List V) (H : Hp) (Q : VK) (E : XK) (h : spNP K vs H Q E) : t_Reading_next_piece K P w { nx := fun _ H' => Q .non H', rt := Q } (L2.start ["self", "steps", "k", "place", "step"] vs) H := by
  obtain ⟨a, dx, r, ws, k, many, cs, rfl, R, hx, hcs, hl, ⟨h1, h3, hr, hsm⟩, q⟩ := h
  refine ⟨by show 0 ≤ sizeLine; exact Nat.zero_le _, fun l hl0 => ?_⟩
  have gr1 := Gr.new (.lst []) hl0
  have R1 := R.gr gr1
  have la : l ≠ a := fun z => by
    rw [z, R.1] at hl0
    cases hl0
  have lr : r ≠ l := fun z => by
    rw [← z, R.2] at hl0
    cases hl0
  obtain ⟨hA1, hL1⟩ := id R1
  refine ⟨_, rfl, a, dx, _, rfl, hA1, rF_no (by decide) (by decide) (by decide), a, dx, r, ws, k, many, cs.length, 1, 12, rfl, R1, hx, hl, ⟨by omega, by omega, by omega⟩, fun H2 sm2 R2 => ⟨cs.length, rfl, by omega, by omega, ?_⟩⟩
  refine for_range (lo := 0) (n := (cs.length : Int).toNat) (fun i σ H' => ∃ x2 x3 x4 vs, σ = [some (.ref a), some (.ref l), x2, x3, x4] ∧ SameB a H H' ∧ Rd K ws (k + 1 + 2 * i) many a dx r H' ∧ H' l = some (.lst vs) ∧ Ims H' vs ((cs.take i).map cD))
    ⟨none, none, none, [], rfl, (SameB.gr gr1).trans sm2, R2, sm2 l _ upd_same la, .nil⟩ ?_ ?_
  · rintro i σ H' hi ⟨x2, x3, x4, vs, rfl, sm, R', hl', hv⟩
    have hi : i < cs.length := by omega
    obtain ⟨c, hc⟩ : ∃ c, cs[i]? = some c := ⟨_, List.getElem?_eq_getElem hi⟩
    obtain ⟨hw1, hw2⟩ := hcs.cells hc
    have hsc : smallC c = true := (List.all_eq_true.mp hsm) c (List.mem_of_getElem? hc)
    obtain ⟨hA, hL⟩ := id R'
    refine ⟨_, rfl, a, _, dx, _, _, rfl, hA, (T.cls 111 (x := "Reading") rfl), (T.noat 131 (x := "Reading") (f := "at") rfl), rF_at, ?_⟩
    refine ⟨_, rfl, a, dx, _, rfl, hA, rF_no (by decide) (by decide) (by decide), a, dx, r, ws, k + 1 + 2 * i, many, c, rfl, R', hw1, hw2, hl, hsc, fun v H3 sm3 R3 iv => ?_⟩
    have hl3 := sm3 l _ hl' la
    have hv3 := ims_sb (R'.tups sm3) hv
    refine ⟨_, rfl, by show 0 ≤ sizeLine; exact Nat.zero_le _, fun p hp => ?_⟩
    have g4 := Gr.new (.lst []) hp
    have hl4 := g4 _ _ hl3
    have hv4 := hv3.kp g4.kp
    have iv4 := iv.kp g4.kp
    have lv : vs.length = i := by rw [hv.len, List.length_map, List.length_take]; omega
    obtain ⟨b, rfl, eb⟩ := Im.cell iv4
    have h0 : SameB a H (upd H3 p (.lst [])) := (sm.trans sm3).trans (SameB.gr g4)
    have R4 := R3.gr g4
    have stp : ∀ D : Ends, (∀ σ2 H5, (∃ x2 x3 x4 vs, σ2 = [some (.ref a), some (.ref l), x2, x3, x4] ∧ SameB a H H5 ∧ Rd K ws (k + 1 + 2 * (i + 1)) many a dx r H5 ∧ H5 l = some (.lst vs) ∧ Ims H5 vs ((cs.take (i + 1)).map cD)) → D.nx σ2 H5) →
        (tDrop (tBM K "list" rAppend (tVar 1) (tCons (tVar 4) tNil))) D [some (.ref a), some (.ref l), some (.int (0 + (i : Nat))), some (.int ((k + 1 + 2 * i : Nat) : Int)), some (.ref b)] (upd H3 p (.lst [])) := by
      intro D hD
      refine ⟨_, rfl, .inl ⟨rfl, vs, SqL.of hl4⟩, _, rfl, l, vs, .ref b, rfl, rfl, hl4, by rw [lv, sizeLine_eq]; omega, hD _ _ ?_⟩
      have kp : Kp (upd H3 p (.lst [])) (upd (upd H3 p (.lst [])) l (.lst (vs ++ [.ref b]))) := .upd hl4 rfl
      refine ⟨_, _, _, vs ++ [.ref b], rfl, fun c o e n => ?_, ?_, upd_same, ?_⟩
      · rw [upd_ne (fun z => by rw [z, hl0] at e; cases e)]
        exact h0 c o e n
      · exact ⟨kp _ _ R4.1 rfl, (upd_ne lr).trans R4.2⟩
      · rw [List.take_succ, hc, List.map_append]
        exact (hv4.kp kp).app (.cons ((cell_im eb).kp kp) .nil)
    refine ⟨.list ((cs.take i).map cD), .list [], .lst (SqL.of hl4) hv4.dp, .lst (SqL.of upd_same) .nil, csL_shaped _, by decide, _, rfl, ?_⟩
    rw [list_nil_eqv]
    by_cases z : i = 0
    · subst z
      exact iteF (iteF (stp _ fun σ2 H5 h => h))
    · obtain ⟨j, rfl⟩ : ∃ j, i = j + 1 := ⟨i - 1, by omega⟩
      obtain ⟨d, hd⟩ : ∃ d, cs[j]? = some d := ⟨_, List.getElem?_eq_getElem (by omega)⟩
      have et : cs.take (j + 1) = cs.take j ++ [d] := by rw [List.take_succ, hd] <;> rfl
      rw [et, List.map_append] at hv4 ⊢
      obtain ⟨us, u, rfl, hus, hu⟩ := ims_last hv4
      obtain ⟨b2, rfl, eb2⟩ := Im.cell hu
      have hlt : lt2 d c := rise_lt hr hd hc
      have ne : ((cs.take j).map cD ++ [d].map cD).isEmpty = false := by cases (cs.take j).map cD <;> rfl
      rw [ne]
      refine iteT ⟨_, rfl, _, rfl, 1, rfl, .inl ⟨l, us ++ [.ref b2], -1, .ref b2, rfl, rfl, SqL.of hl4, atI_last _ _, b, b2, [c.1, c.2], [d.1, d.2], rfl, rfl, SqT.of eb, SqT.of eb2, _, rfl, ?_⟩⟩
      rw [lex2_false hlt]
      exact iteF (stp _ fun σ2 H5 h => h)
  · rintro σ H' ⟨x2, x3, x4, vs, rfl, sm, R', hl', hv⟩
    rw [show (cs.length : Int).toNat = cs.length by omega] at R' hv
    rw [List.take_length] at hv
    refine ⟨_, rfl, l, vs, rfl, .inl ⟨SqL.of hl', fun p hp => ?_⟩⟩
    have g := Gr.new (.tup vs) hp
    exact q _ _ (sm.trans (SameB.gr g)) (R'.gr g) (.tup upd_same (hv.kp g.kp))
theorem O_Reading_next_piece (T : Tx K mg) : Ok P w K mg base CX0 5 d_Reading_next_piece ["self"] (spNP K) := by
  obtain ⟨fd, F⟩ := T.fn 51 d_Reading_next_piece rfl
  exact ok_v (t := t_Reading_next_piece K P w) F sc_Reading_next_piece (fun _ _ _ _ _ _ us hl => match us, hl with | [_], _ => rfl) len_Reading_next_piece (fun cdv A outer s H E hr => pss_cons (ps_set (i := 1) sc_Reading_next_piece.nd rfl (by first | exact Or.inl rfl | exact Or.inr rfl) (pe_lst (pa_nil))) (pss_cons (ps_for PassesOwn.never rfl (pi_range1 rfl (T.free 71 rfl) (pa_cons (pe_methO (d := d_Reading_next_number) (pv 0) (T.cls 111 (x := "Reading") rfl) (T.meth 170 (x := "Reading") (m := "next_number") rfl) (O_Reading_next_number T) (hr.mono (by first | decide | omega)) (pa_cons (pe_int) (pa_cons (pe_gint rfl (T.int 82 rfl)) (pa_nil)))) (pa_nil))) (pg_name (i := 2) sc_Reading_next_piece.nd rfl (by first | exact Or.inl rfl | exact Or.inr rfl)) (pss_cons (ps_set (i := 3) sc_Reading_next_piece.nd rfl (by first | exact Or.inl rfl | exact Or.inr rfl) (pe_fld (pv 0) rfl)) (pss_cons (ps_set (i := 4) sc_Reading_next_piece.nd rfl (by first | exact Or.inl rfl | exact Or.inr rfl) (pe_methO0 (d := d_Reading_next_step) (pv 0) (T.cls 111 (x := "Reading") rfl) (T.meth 171 (x := "Reading") (m := "next_step") rfl) (O_Reading_next_step T) (hr.mono (by first | decide | omega)))) (pss_cons (ps_if (PW.pt (pw_and (pt_cmpR (op_neD hr.units) (pv 1) (pe_lst (pa_nil)) (nomark _)) (pw_and1 (pt_cmpR (op_leT hr.units0) (pv 4) (pe_ix ix_seq (pv 1) (pe_un un_neg (pe_int)) (fun _ _ => rfl)) (nomark _))))) (pss_one (ps_never)) (pss_nil)) (pss_one (ps_expr (pe_bm PySem.F.plainAttrs_list PySem.F.slot_list_append PySem.F.type_list_append mt_append (pv 1) (pa_cons (pv 4) (pa_nil))))))))) (pss_one (ps_ret (pe_callTy r_tuple rfl (T.free 67 rfl) boot_tuple (pa_cons (pv 1) (pa_nil))))))) (run_Reading_next_piece T)
end K91
/-! ==== K16 -/
set_option maxRecDepth 100000
set_option maxHeartbeats 4000000
namespace K91
open PySem PySem.Spec PyProof.Rows L2 SG DL
variable {P : Program} {w : World} {K : PySem.W.Frag} {mg : Str → Option Value} {base : Heap}
def goodP (cs : List Cell) : Prop := Rising cs ∧ cs.length ≤ 3 ∧ cs.all smallC = true
def goodT : Tree → Prop
  | .move d t => smallC d = true ∧ goodT t
  | .eat p0 ps t => goodP (p0 :: ps) ∧ goodT t
  | .grow p0 ps t => goodP (p0 :: ps) ∧ goodT t
  | .both a b => goodT a ∧ goodT b
  | .either a b => goodT a ∧ goodT b
  | _ => True
def nodes : Tree → Nat
  | .move _ t => nodes t + 1
  | .eat _ _ t => nodes t + 1
  | .grow _ _ t => nodes t + 1
  | .both a b => nodes a + nodes b + 1
  | .either a b => nodes a + nodes b + 1
  | _ => 1
theorem words_head (t : Tree) : ∃ l, wordsF t = tagF t :: l := by cases t <;> exact ⟨_, rfl⟩
def leafT : Tree → Bool
  | .none => true
  | .all => true
  | .keep => true
  | _ => false
def WORDL : List Str := ["keep", "none", "all", "move", "eat", "grow", "both", "either"]
theorem tag_in (t : Tree) : tagF t ∈ WORDL := by
  cases t
  · show ("none" : Str) ∈ WORDL; decide
  · show ("all" : Str) ∈ WORDL; decide
  · show ("keep" : Str) ∈ WORDL; decide
  · show ("move" : Str) ∈ WORDL; decide
  · show ("eat" : Str) ∈ WORDL; decide
  · show ("grow" : Str) ∈ WORDL; decide
  · show ("both" : Str) ∈ WORDL; decide
  · show ("either" : Str) ∈ WORDL; decide
def spPl (K : PySem.W.Frag) (n : Nat) : Sp := fun vs H Q _ => ∃ (a dx r : Addr) (ws : List Str) (k many : Nat) (t : Tree) (deep : Nat), vs = [.ref a, .int deep] ∧ Rd K ws k many a dx r H ∧ AtW ws k (wordsF t) ∧ ws.length < 100000 ∧ (dep t ≤ n ∧ goodT t ∧ many + nodes t ≤ 40 ∧ deep + dep t ≤ 12) ∧
  ∀ v H', SameB a H H' → Rd K ws (k + (wordsF t).length) (many + nodes t) a dx r H' → PlanAt K t v H' → Q v H'
def spGr (K : PySem.W.Frag) (n : Nat) : Sp := fun vs H Q _ => ∃ (a dx r : Addr) (ws : List Str) (k many : Nat) (t : Tree) (deep : Nat), vs = [.ref a, .str (tagF t), .int deep] ∧ Rd K ws (k + 1) (many + 1) a dx r H ∧ AtW ws k (wordsF t) ∧ ws.length < 100000 ∧ (leafT t = false ∧ dep t ≤ n ∧ goodT t ∧ many + nodes t ≤ 40 ∧ deep + dep t ≤ 12) ∧
  ∀ v H', SameB a H H' → Rd K ws (k + (wordsF t).length) (many + nodes t) a dx r H' → PlanAt K t v H' → Q v H'
theorem len_np (n : Nat) : ∀ vs H Q E, spPl K n vs H Q E → vs.length = 2 := by
  rintro vs H Q E ⟨_, _, _, _, _, _, _, _, rfl, _⟩
  rfl
theorem len_gr (n : Nat) : ∀ vs H Q E, spGr K n vs H Q E → vs.length = 3 := by
  rintro vs H Q E ⟨_, _, _, _, _, _, _, _, rfl, _⟩
  rfl
theorem Rd.row {ws : List Str} {k many : Nat} {a dx l : Addr} {H : Hp} (h : Rd K ws k many a dx l H) : l ≠ a := Rd.ne h.1 h.2
/-- an instance is made -/
theorem gr_made {H H' : Hp} {x dx C : Addr} (hx : H x = none) (hdx : H dx = none) (same : ∀ a, a ≠ x → H' a = upd (upd H dx (.own x)) x (.ins C dx []) a) : Gr H H' := fun a o e => by
  have e1 : a ≠ x := fun z => by rw [z, hx] at e; cases e
  rw [same a e1, upd_ne e1, upd_ne (fun z => by rw [z, hdx] at e; cases e)]
  exact e
theorem words_shaped (l : List Str) (h : l.all PyData.strOk = true) : SeqAt.shaped (.tuple (l.map .str)) = true := strs_shaped h

theorem sc_Reading_next_plan : FnScope ["self", "deep", "place", "word"] ["self", "deep"] (defScope s_Reading_next_plan) := ⟨rfl, rfl, rfl, by decide +kernel, rfl, by decide +kernel, by decide +kernel⟩
def t_Reading_next_plan (K : PySem.W.Frag) (P : Program) (w : World) (spG : Sp) : TS := tSeq (tAsg (tFld K (tVar 0) "at") (gName 2)) (tSeq (tAsg (tMeth (He.ga K "Reading") "next_word" (spNW K) [] E0 (tVar 0) tNil) (gName 3)) (tSeq (tIfS (tOr (tTest (tOp (xIn K true) (tVar 3) (tC (.ref (He.ga K "WORDS"))))) (tOr (tTest (tOp (rEqD K) (tFld K (tVar 0) "many") (tC (.int 40)))) (tTest (tOp (rI0 fun i j => .bl (decide (j < i))) (tVar 1) (tC (.int 12)))))) (tNever) (tNext)) (tSeq (sFld K (tVar 0) (tOp (xAdd K) (tFld K (tVar 0) "many") (tC (.int 1))) "many") (tSeq (tIfS (tTest (tOp (rEqD K) (tVar 3) (tC (.str "keep")))) (tRet (tMk0 (He.ga K "Keep"))) (tNext)) (tSeq (tIfS (tTest (tOp (rEqD K) (tVar 3) (tC (.str "none")))) (tRet (tMk0 (He.ga K "Nothing"))) (tNext)) (tSeq (tIfS (tTest (tOp (rEqD K) (tVar 3) (tC (.str "all")))) (tRet (tMk0 (He.ga K "Everything"))) (tNext)) (tRet (tMeth (He.ga K "Reading") "greater" (spG) [] E0 (tVar 0) (tCons (tVar 3) (tCons (tVar 1) (tNil)))))))))))
theorem step_np (T : Tx K mg) {spG sp : Sp} {j : Nat} (hj : 2 ≤ j) (OG : Ok P w K mg base CX0 j d_Reading_greater ["self", "word", "deep"] spG) (len : ∀ vs H Q E, sp vs H Q E → vs.length = 2) (run : ∀ vs H Q E, sp vs H Q E → t_Reading_next_plan K P w spG { nx := fun _ H' => Q .non H', rt := Q } (L2.start ["self", "deep", "place", "word"] vs) H) : Ok P w K mg base CX0 (j + 1) d_Reading_next_plan ["self", "deep"] sp := by
  obtain ⟨fd, F⟩ := T.fn 52 d_Reading_next_plan rfl
  exact ok_v (t := t_Reading_next_plan K P w spG) F sc_Reading_next_plan (fun _ _ _ _ _ _ us hl => match us, hl with | [_, _], _ => rfl) len (fun cdv A outer s H E hr => pss_cons (ps_set (i := 2) sc_Reading_next_plan.nd rfl (by first | exact Or.inl rfl | exact Or.inr rfl) (pe_fld (pv 0) rfl)) (pss_cons (ps_set (i := 3) sc_Reading_next_plan.nd rfl (by first | exact Or.inl rfl | exact Or.inr rfl) (pe_methO0 (d := d_Reading_next_word) (pv 0) (T.cls 111 (x := "Reading") rfl) (T.meth 169 (x := "Reading") (m := "next_word") rfl) (O_Reading_next_word T) (hr.mono (by first | decide | omega)))) (pss_cons (ps_if (PW.pt (pw_or (pt_cmpR (o_notIn (units65 hr)) (pv 3) (pe_glob rfl (T.glo 195 rfl) rfl) rfl) (pw_or (pt_cmpR (op_eqD hr.units) (pe_fld (pv 0) rfl) (pe_gint rfl (T.int 85 rfl)) (nomark _)) (pw_or1 (pt_cmpR op_gt (pv 1) (pe_gint rfl (T.int 86 rfl)) (nomark _)))))) (pss_one (ps_never)) (pss_nil)) (pss_cons (ps_fld (pv 0) (pe_op o_add (pe_fld (pv 0) rfl) (pe_int)) rfl) (pss_cons (ps_if (pt_cmpR (op_eqD hr.units) (pv 3) (pe_str) (nomark _)) (pss_one (ps_ret (pe_mk0 (T.mk0 5 (x := "Keep") rfl) rfl (T.glo 94 rfl)))) (pss_nil)) (pss_cons (ps_if (pt_cmpR (op_eqD hr.units) (pv 3) (pe_str) (nomark _)) (pss_one (ps_ret (pe_mk0 (T.mk0 6 (x := "Nothing") rfl) rfl (T.glo 96 rfl)))) (pss_nil)) (pss_cons (ps_if (pt_cmpR (op_eqD hr.units) (pv 3) (pe_str) (nomark _)) (pss_one (ps_ret (pe_mk0 (T.mk0 7 (x := "Everything") rfl) rfl (T.glo 98 rfl)))) (pss_nil)) (pss_one (ps_ret (pe_methO (d := d_Reading_greater) (pv 0) (T.cls 111 (x := "Reading") rfl) (T.meth 174 (x := "Reading") (m := "greater") rfl) OG (hr.mono (by first | decide | omega)) (pa_cons (pv 3) (pa_cons (pv 1) (pa_nil))))))))))))) run
theorem run_np (T : Tx K mg) {spG : Sp} {n : Nat} (hG : ∀ vs H Q E, spGr K n vs H Q E → spG vs H Q E) (vs : List V) (H : Hp) (Q : VK) (E : XK) (h : spPl K n vs H Q E) : t_Reading_next_plan K P w spG { nx := fun _ H' => Q .non H', rt := Q } (L2.start ["self", "deep", "place", "word"] vs) H := by
  obtain ⟨a, dx, r, ws, k, many, t, deep, rfl, R, hat, hl, ⟨hd, hg, hm, hp⟩, q⟩ := h
  obtain ⟨tl, etl⟩ := words_head t
  have hx : ws[k]? = some (tagF t) := AtW.head (l := tl) (by rw [← etl]; exact hat)
  refine ⟨_, rfl, a, _, dx, _, _, rfl, R.1, (T.cls 111 (x := "Reading") rfl), (T.noat 131 (x := "Reading") (f := "at") rfl), rF_at, ?_⟩
  refine ⟨_, rfl, a, dx, _, rfl, R.1, rF_no (by decide) (by decide) (by decide), a, dx, r, ws, k, many, tagF t, rfl, R, hx, hl, fun H1 sm1 R1 => ?_⟩
  have nm : 1 ≤ nodes t := by cases t <;> simp only [nodes] <;> omega
  have hin : (!(WORDL.map PyData.str).any fun z => PyData.eqv z (.str (tagF t))) = false := by rw [any_str, decide_eq_true (tag_in t)] <;> rfl
  refine ⟨_, rfl, .str (tagF t), WORDL.map .str, .str _, .tup (T.tup 0 (x := "WORDS") rfl H1) (dpAll_strs WORDL), str_shaped (tag_ok t), words_shaped WORDL (by decide +kernel), false, congrArg V.bl hin, iteF ?_⟩
  refine ⟨_, rfl, a, _, dx, _, _, rfl, R1.1, (T.cls 111 (x := "Reading") rfl), (T.noat 132 (x := "Reading") (f := "many") rfl), rF_many, .int many, .int 40, .int _, .int _, int_shaped _, int_shaped _, false, congrArg V.bl ((int_eqv _ _).trans (decide_eq_false (by omega))), iteF ?_⟩
  refine ⟨_, rfl, _, _, rfl, rfl, false, congrArg V.bl (decide_eq_false (by omega)), iteF ?_⟩
  refine ⟨_, rfl, a, _, dx, _, _, rfl, R1.1, (T.cls 111 (x := "Reading") rfl), (T.noat 132 (x := "Reading") (f := "many") rfl), rF_many, .inl (.inl ⟨_, _, rfl, rfl, _, rfl, a, _, dx, _, rfl, R1.1, (T.cls 111 (x := "Reading") rfl), (T.noat 132 (x := "Reading") (f := "many") rfl), by show 3 < 1000; decide, ?_⟩)⟩
  rw [rF_putMany]
  have R2 : Rd K ws (k + 1) (many + 1) a dx r (upd H1 a (HO.ins (He.ga K "Reading") dx (rF (.ref r) (k + 1) (many + 1)))) := ⟨upd_same, (upd_ne R1.row).trans R1.2⟩
  have sm2 : SameB a H (upd H1 a (HO.ins (He.ga K "Reading") dx (rF (.ref r) (k + 1) (many + 1)))) := sm1.trans (SameB.upd _ _ _)
  cases t with
  | keep =>
    refine ⟨_, rfl, .str "keep", .str "keep", .str _, .str _, str_shaped (s := "keep") (by decide +kernel), str_shaped (s := "keep") (by decide +kernel), true, congrArg V.bl ((str_eqv _ _).trans (show decide (("keep" : Str) = "keep") = true by decide)), iteT ?_⟩
    intro x dx' hx' hdx' hne
    have g := gr_made (C := He.ga K "Keep") hx' hdx' (fun a _ => rfl)
    exact q _ _ (sm2.trans (SameB.gr g)) (R2.gr g) ⟨x, dx', rfl, upd_same⟩
  | none =>
    refine ⟨_, rfl, .str "none", .str "keep", .str _, .str _, str_shaped (s := "none") (by decide +kernel), str_shaped (s := "keep") (by decide +kernel), false, congrArg V.bl ((str_eqv _ _).trans (show decide (("none" : Str) = "keep") = false by decide)), iteF ?_⟩
    refine ⟨_, rfl, .str "none", .str "none", .str _, .str _, str_shaped (s := "none") (by decide +kernel), str_shaped (s := "none") (by decide +kernel), true, congrArg V.bl ((str_eqv _ _).trans (show decide (("none" : Str) = "none") = true by decide)), iteT ?_⟩
    intro x dx' hx' hdx' hne
    have g := gr_made (C := He.ga K "Nothing") hx' hdx' (fun a _ => rfl)
    exact q _ _ (sm2.trans (SameB.gr g)) (R2.gr g) ⟨x, dx', rfl, upd_same⟩
  | all =>
    refine ⟨_, rfl, .str "all", .str "keep", .str _, .str _, str_shaped (s := "all") (by decide +kernel), str_shaped (s := "keep") (by decide +kernel), false, congrArg V.bl ((str_eqv _ _).trans (show decide (("all" : Str) = "keep") = false by decide)), iteF ?_⟩
    refine ⟨_, rfl, .str "all", .str "none", .str _, .str _, str_shaped (s := "all") (by decide +kernel), str_shaped (s := "none") (by decide +kernel), false, congrArg V.bl ((str_eqv _ _).trans (show decide (("all" : Str) = "none") = false by decide)), iteF ?_⟩
    refine ⟨_, rfl, .str "all", .str "all", .str _, .str _, str_shaped (s := "all") (by decide +kernel), str_shaped (s := "all") (by decide +kernel), true, congrArg V.bl ((str_eqv _ _).trans (show decide (("all" : Str) = "all") = true by decide)), iteT ?_⟩
    intro x dx' hx' hdx' hne
    have g := gr_made (C := He.ga K "Everything") hx' hdx' (fun a _ => rfl)
    exact q _ _ (sm2.trans (SameB.gr g)) (R2.gr g) ⟨x, dx', rfl, upd_same⟩
  | move d t =>
    refine ⟨_, rfl, .str "move", .str "keep", .str _, .str _, str_shaped (s := "move") (by decide +kernel), str_shaped (s := "keep") (by decide +kernel), false, congrArg V.bl ((str_eqv _ _).trans (show decide (("move" : Str) = "keep") = false by decide)), iteF ?_⟩
    refine ⟨_, rfl, .str "move", .str "none", .str _, .str _, str_shaped (s := "move") (by decide +kernel), str_shaped (s := "none") (by decide +kernel), false, congrArg V.bl ((str_eqv _ _).trans (show decide (("move" : Str) = "none") = false by decide)), iteF ?_⟩
    refine ⟨_, rfl, .str "move", .str "all", .str _, .str _, str_shaped (s := "move") (by decide +kernel), str_shaped (s := "all") (by decide +kernel), false, congrArg V.bl ((str_eqv _ _).trans (show decide (("move" : Str) = "all") = false by decide)), iteF ?_⟩
    exact ⟨_, rfl, a, dx, _, rfl, R2.1, rF_no (by decide) (by decide) (by decide), _, rfl, _, rfl, hG _ _ _ _ ⟨a, dx, r, ws, k, many, .move d t, deep, rfl, R2, hat, hl, ⟨rfl, hd, hg, hm, hp⟩, fun v H' sm R' pl => q v H' (sm2.trans sm) R' pl⟩⟩
  | eat p0 ps t =>
    refine ⟨_, rfl, .str "eat", .str "keep", .str _, .str _, str_shaped (s := "eat") (by decide +kernel), str_shaped (s := "keep") (by decide +kernel), false, congrArg V.bl ((str_eqv _ _).trans (show decide (("eat" : Str) = "keep") = false by decide)), iteF ?_⟩
    refine ⟨_, rfl, .str "eat", .str "none", .str _, .str _, str_shaped (s := "eat") (by decide +kernel), str_shaped (s := "none") (by decide +kernel), false, congrArg V.bl ((str_eqv _ _).trans (show decide (("eat" : Str) = "none") = false by decide)), iteF ?_⟩
    refine ⟨_, rfl, .str "eat", .str "all", .str _, .str _, str_shaped (s := "eat") (by decide +kernel), str_shaped (s := "all") (by decide +kernel), false, congrArg V.bl ((str_eqv _ _).trans (show decide (("eat" : Str) = "all") = false by decide)), iteF ?_⟩
    exact ⟨_, rfl, a, dx, _, rfl, R2.1, rF_no (by decide) (by decide) (by decide), _, rfl, _, rfl, hG _ _ _ _ ⟨a, dx, r, ws, k, many, .eat p0 ps t, deep, rfl, R2, hat, hl, ⟨rfl, hd, hg, hm, hp⟩, fun v H' sm R' pl => q v H' (sm2.trans sm) R' pl⟩⟩
  | grow p0 ps t =>
    refine ⟨_, rfl, .str "grow", .str "keep", .str _, .str _, str_shaped (s := "grow") (by decide +kernel), str_shaped (s := "keep") (by decide +kernel), false, congrArg V.bl ((str_eqv _ _).trans (show decide (("grow" : Str) = "keep") = false by decide)), iteF ?_⟩
    refine ⟨_, rfl, .str "grow", .str "none", .str _, .str _, str_shaped (s := "grow") (by decide +kernel), str_shaped (s := "none") (by decide +kernel), false, congrArg V.bl ((str_eqv _ _).trans (show decide (("grow" : Str) = "none") = false by decide)), iteF ?_⟩
    refine ⟨_, rfl, .str "grow", .str "all", .str _, .str _, str_shaped (s := "grow") (by decide +kernel), str_shaped (s := "all") (by decide +kernel), false, congrArg V.bl ((str_eqv _ _).trans (show decide (("grow" : Str) = "all") = false by decide)), iteF ?_⟩
    exact ⟨_, rfl, a, dx, _, rfl, R2.1, rF_no (by decide) (by decide) (by decide), _, rfl, _, rfl, hG _ _ _ _ ⟨a, dx, r, ws, k, many, .grow p0 ps t, deep, rfl, R2, hat, hl, ⟨rfl, hd, hg, hm, hp⟩, fun v H' sm R' pl => q v H' (sm2.trans sm) R' pl⟩⟩
  | both p1 p2 =>
    refine ⟨_, rfl, .str "both", .str "keep", .str _, .str _, str_shaped (s := "both") (by decide +kernel), str_shaped (s := "keep") (by decide +kernel), false, congrArg V.bl ((str_eqv _ _).trans (show decide (("both" : Str) = "keep") = false by decide)), iteF ?_⟩
    refine ⟨_, rfl, .str "both", .str "none", .str _, .str _, str_shaped (s := "both") (by decide +kernel), str_shaped (s := "none") (by decide +kernel), false, congrArg V.bl ((str_eqv _ _).trans (show decide (("both" : Str) = "none") = false by decide)), iteF ?_⟩
    refine ⟨_, rfl, .str "both", .str "all", .str _, .str _, str_shaped (s := "both") (by decide +kernel), str_shaped (s := "all") (by decide +kernel), false, congrArg V.bl ((str_eqv _ _).trans (show decide (("both" : Str) = "all") = false by decide)), iteF ?_⟩
    exact ⟨_, rfl, a, dx, _, rfl, R2.1, rF_no (by decide) (by decide) (by decide), _, rfl, _, rfl, hG _ _ _ _ ⟨a, dx, r, ws, k, many, .both p1 p2, deep, rfl, R2, hat, hl, ⟨rfl, hd, hg, hm, hp⟩, fun v H' sm R' pl => q v H' (sm2.trans sm) R' pl⟩⟩
  | either p1 p2 =>
    refine ⟨_, rfl, .str "either", .str "keep", .str _, .str _, str_shaped (s := "either") (by decide +kernel), str_shaped (s := "keep") (by decide +kernel), false, congrArg V.bl ((str_eqv _ _).trans (show decide (("either" : Str) = "keep") = false by decide)), iteF ?_⟩
    refine ⟨_, rfl, .str "either", .str "none", .str _, .str _, str_shaped (s := "either") (by decide +kernel), str_shaped (s := "none") (by decide +kernel), false, congrArg V.bl ((str_eqv _ _).trans (show decide (("either" : Str) = "none") = false by decide)), iteF ?_⟩
    refine ⟨_, rfl, .str "either", .str "all", .str _, .str _, str_shaped (s := "either") (by decide +kernel), str_shaped (s := "all") (by decide +kernel), false, congrArg V.bl ((str_eqv _ _).trans (show decide (("either" : Str) = "all") = false by decide)), iteF ?_⟩
    exact ⟨_, rfl, a, dx, _, rfl, R2.1, rF_no (by decide) (by decide) (by decide), _, rfl, _, rfl, hG _ _ _ _ ⟨a, dx, r, ws, k, many, .either p1 p2, deep, rfl, R2, hat, hl, ⟨rfl, hd, hg, hm, hp⟩, fun v H' sm R' pl => q v H' (sm2.trans sm) R' pl⟩⟩

theorem sc_Reading_greater : FnScope ["self", "word", "deep", "step", "piece", "one"] ["self", "word", "deep"] (defScope s_Reading_greater) := ⟨rfl, rfl, rfl, by decide +kernel, rfl, by decide +kernel, by decide +kernel⟩
def t_Reading_greater (K : PySem.W.Frag) (P : Program) (w : World) (spN : Sp) : TS := tSeq (tIfS (tTest (tOp (rEqD K) (tVar 1) (tC (.str "move")))) (tSeq (tAsg (tMeth (He.ga K "Reading") "next_step" (spNS K) [] E0 (tVar 0) tNil) (gName 3)) (tRet (tMake (He.ga K "Move") (spI2 (He.ga K "Move") "step" "plan") [] E0 (tCons (tVar 3) (tCons (tMeth (He.ga K "Reading") "next_plan" spN [] E0 (tVar 0) (tCons (tOp (xAdd K) (tVar 2) (tC (.int 1))) (tNil))) (tNil)))))) (tNext)) (tSeq (tIfS (tTest (tOp (rEqD K) (tVar 1) (tC (.str "eat")))) (tSeq (tAsg (tMeth (He.ga K "Reading") "next_piece" (spNP K) [] E0 (tVar 0) tNil) (gName 4)) (tRet (tMake (He.ga K "Eat") (spI2 (He.ga K "Eat") "piece" "plan") [] E0 (tCons (tVar 4) (tCons (tMeth (He.ga K "Reading") "next_plan" spN [] E0 (tVar 0) (tCons (tOp (xAdd K) (tVar 2) (tC (.int 1))) (tNil))) (tNil)))))) (tNext)) (tSeq (tIfS (tTest (tOp (rEqD K) (tVar 1) (tC (.str "grow")))) (tSeq (tAsg (tMeth (He.ga K "Reading") "next_piece" (spNP K) [] E0 (tVar 0) tNil) (gName 4)) (tRet (tMake (He.ga K "Grow") (spI2 (He.ga K "Grow") "piece" "plan") [] E0 (tCons (tVar 4) (tCons (tMeth (He.ga K "Reading") "next_plan" spN [] E0 (tVar 0) (tCons (tOp (xAdd K) (tVar 2) (tC (.int 1))) (tNil))) (tNil)))))) (tNext)) (tSeq (tAsg (tMeth (He.ga K "Reading") "next_plan" spN [] E0 (tVar 0) (tCons (tOp (xAdd K) (tVar 2) (tC (.int 1))) (tNil))) (gName 5)) (tSeq (tIfS (tTest (tOp (rEqD K) (tVar 1) (tC (.str "both")))) (tRet (tMake (He.ga K "Both") (spI2 (He.ga K "Both") "one" "other") [] E0 (tCons (tVar 5) (tCons (tMeth (He.ga K "Reading") "next_plan" spN [] E0 (tVar 0) (tCons (tOp (xAdd K) (tVar 2) (tC (.int 1))) (tNil))) (tNil))))) (tNext)) (tRet (tMake (He.ga K "Either") (spI2 (He.ga K "Either") "one" "other") [] E0 (tCons (tVar 5) (tCons (tMeth (He.ga K "Reading") "next_plan" spN [] E0 (tVar 0) (tCons (tOp (xAdd K) (tVar 2) (tC (.int 1))) (tNil))) (tNil)))))))))
theorem step_gr (T : Tx K mg) {spN sp : Sp} {j : Nat} (hj : 5 ≤ j) (ON : Ok P w K mg base CX0 j d_Reading_next_plan ["self", "deep"] spN) (len : ∀ vs H Q E, sp vs H Q E → vs.length = 3) (run : ∀ vs H Q E, sp vs H Q E → t_Reading_greater K P w spN { nx := fun _ H' => Q .non H', rt := Q } (L2.start ["self", "word", "deep", "step", "piece", "one"] vs) H) : Ok P w K mg base CX0 (j + 1) d_Reading_greater ["self", "word", "deep"] sp := by
  obtain ⟨fd, F⟩ := T.fn 53 d_Reading_greater rfl
  exact ok_v (t := t_Reading_greater K P w spN) F sc_Reading_greater (fun _ _ _ _ _ _ us hl => match us, hl with | [_, _, _], _ => rfl) len (fun cdv A outer s H E hr => pss_cons (ps_if (pt_cmpR (op_eqD hr.units) (pv 1) (pe_str) (nomark _)) (pss_cons (ps_set (i := 3) sc_Reading_greater.nd rfl (by first | exact Or.inl rfl | exact Or.inr rfl) (pe_methO0 (d := d_Reading_next_step) (pv 0) (T.cls 111 (x := "Reading") rfl) (T.meth 171 (x := "Reading") (m := "next_step") rfl) (O_Reading_next_step T) (hr.mono (by first | decide | omega)))) (pss_one (ps_ret (pe_makeO (d := d_Move_init) (T.mkr 117 (x := "Move") rfl) (O_Move_init T) (hr.mono (by omega)) rfl (T.glo 100 rfl) (pa_cons (pv 3) (pa_cons (pe_methO (d := d_Reading_next_plan) (pv 0) (T.cls 111 (x := "Reading") rfl) (T.meth 173 (x := "Reading") (m := "next_plan") rfl) ON (hr.mono (by first | decide | omega)) (pa_cons (pe_op o_add (pv 2) (pe_int)) (pa_nil))) (pa_nil))))))) (pss_nil)) (pss_cons (ps_if (pt_cmpR (op_eqD hr.units) (pv 1) (pe_str) (nomark _)) (pss_cons (ps_set (i := 4) sc_Reading_greater.nd rfl (by first | exact Or.inl rfl | exact Or.inr rfl) (pe_methO0 (d := d_Reading_next_piece) (pv 0) (T.cls 111 (x := "Reading") rfl) (T.meth 172 (x := "Reading") (m := "next_piece") rfl) (O_Reading_next_piece T) (hr.mono (by first | decide | omega)))) (pss_one (ps_ret (pe_makeO (d := d_Eat_init) (T.mkr 120 (x := "Eat") rfl) (O_Eat_init T) (hr.mono (by omega)) rfl (T.glo 102 rfl) (pa_cons (pv 4) (pa_cons (pe_methO (d := d_Reading_next_plan) (pv 0) (T.cls 111 (x := "Reading") rfl) (T.meth 173 (x := "Reading") (m := "next_plan") rfl) ON (hr.mono (by first | decide | omega)) (pa_cons (pe_op o_add (pv 2) (pe_int)) (pa_nil))) (pa_nil))))))) (pss_nil)) (pss_cons (ps_if (pt_cmpR (op_eqD hr.units) (pv 1) (pe_str) (nomark _)) (pss_cons (ps_set (i := 4) sc_Reading_greater.nd rfl (by first | exact Or.inl rfl | exact Or.inr rfl) (pe_methO0 (d := d_Reading_next_piece) (pv 0) (T.cls 111 (x := "Reading") rfl) (T.meth 172 (x := "Reading") (m := "next_piece") rfl) (O_Reading_next_piece T) (hr.mono (by first | decide | omega)))) (pss_one (ps_ret (pe_makeO (d := d_Grow_init) (T.mkr 123 (x := "Grow") rfl) (O_Grow_init T) (hr.mono (by omega)) rfl (T.glo 104 rfl) (pa_cons (pv 4) (pa_cons (pe_methO (d := d_Reading_next_plan) (pv 0) (T.cls 111 (x := "Reading") rfl) (T.meth 173 (x := "Reading") (m := "next_plan") rfl) ON (hr.mono (by first | decide | omega)) (pa_cons (pe_op o_add (pv 2) (pe_int)) (pa_nil))) (pa_nil))))))) (pss_nil)) (pss_cons (ps_set (i := 5) sc_Reading_greater.nd rfl (by first | exact Or.inl rfl | exact Or.inr rfl) (pe_methO (d := d_Reading_next_plan) (pv 0) (T.cls 111 (x := "Reading") rfl) (T.meth 173 (x := "Reading") (m := "next_plan") rfl) ON (hr.mono (by first | decide | omega)) (pa_cons (pe_op o_add (pv 2) (pe_int)) (pa_nil)))) (pss_cons (ps_if (pt_cmpR (op_eqD hr.units) (pv 1) (pe_str) (nomark _)) (pss_one (ps_ret (pe_makeO (d := d_Both_init) (T.mkr 126 (x := "Both") rfl) (O_Both_init T) (hr.mono (by omega)) rfl (T.glo 106 rfl) (pa_cons (pv 5) (pa_cons (pe_methO (d := d_Reading_next_plan) (pv 0) (T.cls 111 (x := "Reading") rfl) (T.meth 173 (x := "Reading") (m := "next_plan") rfl) ON (hr.mono (by first | decide | omega)) (pa_cons (pe_op o_add (pv 2) (pe_int)) (pa_nil))) (pa_nil)))))) (pss_nil)) (pss_one (ps_ret (pe_makeO (d := d_Either_init) (T.mkr 129 (x := "Either") rfl) (O_Either_init T) (hr.mono (by omega)) rfl (T.glo 108 rfl) (pa_cons (pv 5) (pa_cons (pe_methO (d := d_Reading_next_plan) (pv 0) (T.cls 111 (x := "Reading") rfl) (T.meth 173 (x := "Reading") (m := "next_plan") rfl) ON (hr.mono (by first | decide | omega)) (pa_cons (pe_op o_add (pv 2) (pe_int)) (pa_nil))) (pa_nil))))))))))) run
theorem run_gr (T : Tx K mg) {spN : Sp} {n : Nat} (hN : ∀ vs H Q E, spPl K n vs H Q E → spN vs H Q E) (vs : List V) (H : Hp) (Q : VK) (E : XK) (h : spGr K (n + 1) vs H Q E) : t_Reading_greater K P w spN { nx := fun _ H' => Q .non H', rt := Q } (L2.start ["self", "word", "deep", "step", "piece", "one"] vs) H := by
  obtain ⟨a, dx, r, ws, k, many, t, deep, rfl, R, hat, hl, ⟨hlf, hd, hg, hm, hp⟩, q⟩ := h
  cases t with
  | none => cases hlf
  | all => cases hlf
  | keep => cases hlf
  | move d u =>
    refine ⟨_, rfl, .str "move", .str "move", .str _, .str _, str_shaped (s := "move") (by decide +kernel), str_shaped (s := "move") (by decide +kernel), true, congrArg V.bl ((str_eqv _ _).trans (show decide (("move" : Str) = "move") = true by decide)), iteT ?_⟩
    have hat : AtW ws k ([("move" : Str), numT d.1, numT d.2] ++ wordsF u) := hat
    have h1 := hat.left
    have h3 : AtW ws (k + 3) (wordsF u) := hat.right
    refine ⟨_, rfl, a, dx, _, rfl, R.1, rF_no (by decide) (by decide) (by decide), a, dx, r, ws, k + 1, many + 1, d, rfl, R, h1.tail.head, h1.tail.tail.head, hl, hg.1, fun v H1 sm1 R1 iv => ?_⟩
    have hd2 : dep u + 1 ≤ n + 1 := hd
    have hp2 : deep + (dep u + 1) ≤ 12 := hp
    have hm2 : many + (nodes u + 1) ≤ 40 := hm
    refine ⟨_, rfl, _, rfl, a, dx, _, rfl, R1.1, rF_no (by decide) (by decide) (by decide), _, rfl, .inl (.inl ⟨_, _, rfl, rfl, hN _ _ _ _ ⟨a, dx, r, ws, k + 1 + 2, many + 1, u, deep + 1, rfl, R1, h3, hl, ⟨by omega, hg.2, by omega, by omega⟩, fun x H2 sm2 R2 pl => ?_⟩⟩)⟩
    intro y dy hy hdy hne
    refine ⟨y, dy, v, x, rfl, upd_same, fun H' same hp' => ⟨rfl, ?_⟩⟩
    have gr := gr_made hy hdy same
    refine q _ H' ((sm1.trans sm2).trans (SameB.gr gr)) ?_ ⟨y, dy, v, x, rfl, hp', (im_sb (R1.tups sm2) iv).kp gr.kp, pl.kp gr.kp⟩
    have e1 : k + (wordsF (.move d u)).length = k + 1 + 2 + (wordsF u).length := by
      show k + ([("move" : Str), numT d.1, numT d.2] ++ wordsF u).length = _
      rw [List.length_append]
      show k + (3 + _) = _
      omega
    have e2 : many + nodes (.move d u) = many + 1 + nodes u := by show many + (nodes u + 1) = _; omega
    rw [e1, e2]
    exact R2.gr gr
  | eat p0 ps u =>
    refine ⟨_, rfl, .str "eat", .str "move", .str _, .str _, str_shaped (s := "eat") (by decide +kernel), str_shaped (s := "move") (by decide +kernel), false, congrArg V.bl ((str_eqv _ _).trans (show decide (("eat" : Str) = "move") = false by decide)), iteF ?_⟩
    refine ⟨_, rfl, .str "eat", .str "eat", .str _, .str _, str_shaped (s := "eat") (by decide +kernel), str_shaped (s := "eat") (by decide +kernel), true, congrArg V.bl ((str_eqv _ _).trans (show decide (("eat" : Str) = "eat") = true by decide)), iteT ?_⟩
    have hat : AtW ws k (([("eat" : Str), numT (p0 :: ps).length] ++ cellW (p0 :: ps)) ++ wordsF u) := hat
    have h1 := hat.left.left
    have h2 : AtW ws (k + 2) (cellW (p0 :: ps)) := hat.left.right
    have h3 := hat.right
    rw [List.length_append, cellW_len] at h3
    refine ⟨_, rfl, a, dx, _, rfl, R.1, rF_no (by decide) (by decide) (by decide), a, dx, r, ws, k + 1, many + 1, p0 :: ps, rfl, R, h1.tail.head, h2, hl, ⟨by rw [List.length_cons]; omega, hg.1.2.1, hg.1.1, hg.1.2.2⟩, fun v H1 sm1 R1 iv => ?_⟩
    have hd2 : dep u + 1 ≤ n + 1 := hd
    have hp2 : deep + (dep u + 1) ≤ 12 := hp
    have hm2 : many + (nodes u + 1) ≤ 40 := hm
    refine ⟨_, rfl, _, rfl, a, dx, _, rfl, R1.1, rF_no (by decide) (by decide) (by decide), _, rfl, .inl (.inl ⟨_, _, rfl, rfl, hN _ _ _ _ ⟨a, dx, r, ws, k + 1 + 1 + 2 * (p0 :: ps).length, many + 1, u, deep + 1, rfl, R1, (by rw [show k + 1 + 1 + 2 * (p0 :: ps).length = k + (([("eat" : Str), numT (p0 :: ps).length] : List Str).length + 2 * (p0 :: ps).length) by show _ = k + (2 + _); omega]; exact h3), hl, ⟨by omega, hg.2, by omega, by omega⟩, fun x H2 sm2 R2 pl => ?_⟩⟩)⟩
    intro y dy hy hdy hne
    refine ⟨y, dy, v, x, rfl, upd_same, fun H' same hp' => ⟨rfl, ?_⟩⟩
    have gr := gr_made hy hdy same
    refine q _ H' ((sm1.trans sm2).trans (SameB.gr gr)) ?_ ⟨y, dy, v, x, rfl, hp', (im_sb (R1.tups sm2) iv).kp gr.kp, pl.kp gr.kp⟩
    have e1 : k + (wordsF (.eat p0 ps u)).length = k + 1 + 1 + 2 * (p0 :: ps).length + (wordsF u).length := by
      show k + ((([("eat" : Str), numT (p0 :: ps).length] ++ cellW (p0 :: ps)) ++ wordsF u).length) = _
      rw [List.length_append, List.length_append, cellW_len]
      show k + (2 + 2 * _ + _) = _
      omega
    have e2 : many + nodes (.eat p0 ps u) = many + 1 + nodes u := by show many + (nodes u + 1) = _; omega
    rw [e1, e2]
    exact R2.gr gr
  | grow p0 ps u =>
    refine ⟨_, rfl, .str "grow", .str "move", .str _, .str _, str_shaped (s := "grow") (by decide +kernel), str_shaped (s := "move") (by decide +kernel), false, congrArg V.bl ((str_eqv _ _).trans (show decide (("grow" : Str) = "move") = false by decide)), iteF ?_⟩
    refine ⟨_, rfl, .str "grow", .str "eat", .str _, .str _, str_shaped (s := "grow") (by decide +kernel), str_shaped (s := "eat") (by decide +kernel), false, congrArg V.bl ((str_eqv _ _).trans (show decide (("grow" : Str) = "eat") = false by decide)), iteF ?_⟩
    refine ⟨_, rfl, .str "grow", .str "grow", .str _, .str _, str_shaped (s := "grow") (by decide +kernel), str_shaped (s := "grow") (by decide +kernel), true, congrArg V.bl ((str_eqv _ _).trans (show decide (("grow" : Str) = "grow") = true by decide)), iteT ?_⟩
    have hat : AtW ws k (([("grow" : Str), numT (p0 :: ps).length] ++ cellW (p0 :: ps)) ++ wordsF u) := hat
    have h1 := hat.left.left
    have h2 : AtW ws (k + 2) (cellW (p0 :: ps)) := hat.left.right
    have h3 := hat.right
    rw [List.length_append, cellW_len] at h3
    refine ⟨_, rfl, a, dx, _, rfl, R.1, rF_no (by decide) (by decide) (by decide), a, dx, r, ws, k + 1, many + 1, p0 :: ps, rfl, R, h1.tail.head, h2, hl, ⟨by rw [List.length_cons]; omega, hg.1.2.1, hg.1.1, hg.1.2.2⟩, fun v H1 sm1 R1 iv => ?_⟩
    have hd2 : dep u + 1 ≤ n + 1 := hd
    have hp2 : deep + (dep u + 1) ≤ 12 := hp
    have hm2 : many + (nodes u + 1) ≤ 40 := hm
    refine ⟨_, rfl, _, rfl, a, dx, _, rfl, R1.1, rF_no (by decide) (by decide) (by decide), _, rfl, .inl (.inl ⟨_, _, rfl, rfl, hN _ _ _ _ ⟨a, dx, r, ws, k + 1 + 1 + 2 * (p0 :: ps).length, many + 1, u, deep + 1, rfl, R1, (by rw [show k + 1 + 1 + 2 * (p0 :: ps).length = k + (([("grow" : Str), numT (p0 :: ps).length] : List Str).length + 2 * (p0 :: ps).length) by show _ = k + (2 + _); omega]; exact h3), hl, ⟨by omega, hg.2, by omega, by omega⟩, fun x H2 sm2 R2 pl => ?_⟩⟩)⟩
    intro y dy hy hdy hne
    refine ⟨y, dy, v, x, rfl, upd_same, fun H' same hp' => ⟨rfl, ?_⟩⟩
    have gr := gr_made hy hdy same
    refine q _ H' ((sm1.trans sm2).trans (SameB.gr gr)) ?_ ⟨y, dy, v, x, rfl, hp', (im_sb (R1.tups sm2) iv).kp gr.kp, pl.kp gr.kp⟩
    have e1 : k + (wordsF (.grow p0 ps u)).length = k + 1 + 1 + 2 * (p0 :: ps).length + (wordsF u).length := by
      show k + ((([("grow" : Str), numT (p0 :: ps).length] ++ cellW (p0 :: ps)) ++ wordsF u).length) = _
      rw [List.length_append, List.length_append, cellW_len]
      show k + (2 + 2 * _ + _) = _
      omega
    have e2 : many + nodes (.grow p0 ps u) = many + 1 + nodes u := by show many + (nodes u + 1) = _; omega
    rw [e1, e2]
    exact R2.gr gr
  | both p1 p2 =>
    refine ⟨_, rfl, .str "both", .str "move", .str _, .str _, str_shaped (s := "both") (by decide +kernel), str_shaped (s := "move") (by decide +kernel), false, congrArg V.bl ((str_eqv _ _).trans (show decide (("both" : Str) = "move") = false by decide)), iteF ?_⟩
    refine ⟨_, rfl, .str "both", .str "eat", .str _, .str _, str_shaped (s := "both") (by decide +kernel), str_shaped (s := "eat") (by decide +kernel), false, congrArg V.bl ((str_eqv _ _).trans (show decide (("both" : Str) = "eat") = false by decide)), iteF ?_⟩
    refine ⟨_, rfl, .str "both", .str "grow", .str _, .str _, str_shaped (s := "both") (by decide +kernel), str_shaped (s := "grow") (by decide +kernel), false, congrArg V.bl ((str_eqv _ _).trans (show decide (("both" : Str) = "grow") = false by decide)), iteF ?_⟩
    have hat : AtW ws k (([("both" : Str)] ++ wordsF p1) ++ wordsF p2) := hat
    have h2 : AtW ws (k + 1) (wordsF p1) := hat.left.right
    have h3 := hat.right
    have hd2 : max (dep p1) (dep p2) + 1 ≤ n + 1 := hd
    have hp2 : deep + (max (dep p1) (dep p2) + 1) ≤ 12 := hp
    have hm2 : many + (nodes p1 + nodes p2 + 1) ≤ 40 := hm
    refine ⟨_, rfl, a, dx, _, rfl, R.1, rF_no (by decide) (by decide) (by decide), _, rfl, .inl (.inl ⟨_, _, rfl, rfl, hN _ _ _ _ ⟨a, dx, r, ws, k + 1, many + 1, p1, deep + 1, rfl, R, h2, hl, ⟨by omega, hg.1, by omega, by omega⟩, fun v H1 sm1 R1 pv => ?_⟩⟩)⟩
    refine ⟨_, rfl, .str "both", .str "both", .str _, .str _, str_shaped (s := "both") (by decide +kernel), str_shaped (s := "both") (by decide +kernel), true, congrArg V.bl ((str_eqv _ _).trans (show decide (("both" : Str) = "both") = true by decide)), iteT ?_⟩
    refine ⟨_, rfl, _, rfl, a, dx, _, rfl, R1.1, rF_no (by decide) (by decide) (by decide), _, rfl, .inl (.inl ⟨_, _, rfl, rfl, hN _ _ _ _ ⟨a, dx, r, ws, k + 1 + (wordsF p1).length, many + 1 + nodes p1, p2, deep + 1, rfl, R1, (by rw [show k + 1 + (wordsF p1).length = k + ([("both" : Str)] ++ wordsF p1).length by rw [List.length_append]; show _ = k + (1 + _); omega]; exact h3), hl, ⟨by omega, hg.2, by omega, by omega⟩, fun x H2 sm2 R2 pl => ?_⟩⟩)⟩
    intro y dy hy hdy hne
    refine ⟨y, dy, v, x, rfl, upd_same, fun H' same hp' => ⟨rfl, ?_⟩⟩
    have gr := gr_made hy hdy same
    refine q _ H' ((sm1.trans sm2).trans (SameB.gr gr)) ?_ ⟨y, dy, v, x, rfl, hp', (PlanAt.sb R1 sm2 pv).kp gr.kp, pl.kp gr.kp⟩
    have e1 : k + (wordsF (.both p1 p2)).length = k + 1 + (wordsF p1).length + (wordsF p2).length := by
      show k + (([("both" : Str)] ++ wordsF p1) ++ wordsF p2).length = _
      rw [List.length_append, List.length_append]
      show k + (1 + _ + _) = _
      omega
    have e2 : many + nodes (.both p1 p2) = many + 1 + nodes p1 + nodes p2 := by show many + (nodes p1 + nodes p2 + 1) = _; omega
    rw [e1, e2]
    exact R2.gr gr
  | either p1 p2 =>
    refine ⟨_, rfl, .str "either", .str "move", .str _, .str _, str_shaped (s := "either") (by decide +kernel), str_shaped (s := "move") (by decide +kernel), false, congrArg V.bl ((str_eqv _ _).trans (show decide (("either" : Str) = "move") = false by decide)), iteF ?_⟩
    refine ⟨_, rfl, .str "either", .str "eat", .str _, .str _, str_shaped (s := "either") (by decide +kernel), str_shaped (s := "eat") (by decide +kernel), false, congrArg V.bl ((str_eqv _ _).trans (show decide (("either" : Str) = "eat") = false by decide)), iteF ?_⟩
    refine ⟨_, rfl, .str "either", .str "grow", .str _, .str _, str_shaped (s := "either") (by decide +kernel), str_shaped (s := "grow") (by decide +kernel), false, congrArg V.bl ((str_eqv _ _).trans (show decide (("either" : Str) = "grow") = false by decide)), iteF ?_⟩
    have hat : AtW ws k (([("either" : Str)] ++ wordsF p1) ++ wordsF p2) := hat
    have h2 : AtW ws (k + 1) (wordsF p1) := hat.left.right
    have h3 := hat.right
    have hd2 : max (dep p1) (dep p2) + 1 ≤ n + 1 := hd
    have hp2 : deep + (max (dep p1) (dep p2) + 1) ≤ 12 := hp
    have hm2 : many + (nodes p1 + nodes p2 + 1) ≤ 40 := hm
    refine ⟨_, rfl, a, dx, _, rfl, R.1, rF_no (by decide) (by decide) (by decide), _, rfl, .inl (.inl ⟨_, _, rfl, rfl, hN _ _ _ _ ⟨a, dx, r, ws, k + 1, many + 1, p1, deep + 1, rfl, R, h2, hl, ⟨by omega, hg.1, by omega, by omega⟩, fun v H1 sm1 R1 pv => ?_⟩⟩)⟩
    refine ⟨_, rfl, .str "either", .str "both", .str _, .str _, str_shaped (s := "either") (by decide +kernel), str_shaped (s := "both") (by decide +kernel), false, congrArg V.bl ((str_eqv _ _).trans (show decide (("either" : Str) = "both") = false by decide)), iteF ?_⟩
    refine ⟨_, rfl, _, rfl, a, dx, _, rfl, R1.1, rF_no (by decide) (by decide) (by decide), _, rfl, .inl (.inl ⟨_, _, rfl, rfl, hN _ _ _ _ ⟨a, dx, r, ws, k + 1 + (wordsF p1).length, many + 1 + nodes p1, p2, deep + 1, rfl, R1, (by rw [show k + 1 + (wordsF p1).length = k + ([("either" : Str)] ++ wordsF p1).length by rw [List.length_append]; show _ = k + (1 + _); omega]; exact h3), hl, ⟨by omega, hg.2, by omega, by omega⟩, fun x H2 sm2 R2 pl => ?_⟩⟩)⟩
    intro y dy hy hdy hne
    refine ⟨y, dy, v, x, rfl, upd_same, fun H' same hp' => ⟨rfl, ?_⟩⟩
    have gr := gr_made hy hdy same
    refine q _ H' ((sm1.trans sm2).trans (SameB.gr gr)) ?_ ⟨y, dy, v, x, rfl, hp', (PlanAt.sb R1 sm2 pv).kp gr.kp, pl.kp gr.kp⟩
    have e1 : k + (wordsF (.either p1 p2)).length = k + 1 + (wordsF p1).length + (wordsF p2).length := by
      show k + (([("either" : Str)] ++ wordsF p1) ++ wordsF p2).length = _
      rw [List.length_append, List.length_append]
      show k + (1 + _ + _) = _
      omega
    have e2 : many + nodes (.either p1 p2) = many + 1 + nodes p1 + nodes p2 := by show many + (nodes p1 + nodes p2 + 1) = _; omega
    rw [e1, e2]
    exact R2.gr gr

theorem leaf_of {t : Tree} (h : dep t ≤ 0) : leafT t = true := by
  cases t <;> first | rfl | (simp only [dep] at h; omega)
theorem O_np (T : Tx K mg) : ∀ n : Nat, Ok P w K mg base CX0 (2 * n + 6) d_Reading_next_plan ["self", "deep"] (spPl K n)
  | 0 => by
    have OG : Ok P w K mg base CX0 5 d_Reading_greater ["self", "word", "deep"] (fun _ _ _ _ => False) := by
      obtain ⟨fd, F⟩ := T.fn 53 d_Reading_greater rfl
      exact ok_noV F (fun _ _ _ _ _ _ us hl => match us, hl with | [_, _, _], _ => rfl)
    refine step_np T (by decide) OG (len_np 0) (run_np T fun vs H Q E h => ?_)
    obtain ⟨a, dx, r, ws, k, many, t, deep, _, _, _, _, ⟨h1, h2, _⟩, _⟩ := h
    rw [leaf_of h2] at h1
    cases h1
  | n + 1 => step_np T (by omega) (step_gr T (j := 2 * n + 6) (by omega) (O_np T n) (len_gr (n + 1)) (run_gr T fun _ _ _ _ h => h)) (len_np (n + 1)) (run_np T fun _ _ _ _ h => h)
end K91
/-! ==== K17 -/
set_option maxRecDepth 100000
set_option maxHeartbeats 4000000
namespace K91
open PySem PySem.Spec PyProof.Rows L2 SG DL
variable {P : Program} {w : World} {K : PySem.W.Frag} {mg : Str → Option Value} {base : Heap}
/-- what a text gives, told by a property -/
def EvP (te : TE) (ρ : Rho) (Po : V → Hp → Prop) : Prop := ∀ (B : Hp) (σ : L2.St) (H : Hp) (Q : VK), St B σ H ρ → (∀ v H1, Gr H H1 → Po v H1 → Q v H1) → te σ H Q
/-- stays where all stays -/
def StableP (Po : V → Hp → Prop) : Prop := ∀ v H H', Gr H H' → Po v H → Po v H'
def pairP (d : PyData) (Po : V → Hp → Prop) : V → Hp → Prop := fun v H => ∃ p w1 w2, v = .ref p ∧ H p = some (.tup [w1, w2]) ∧ Im H w1 d ∧ Po w2 H
theorem rs_retPair {ρ : Rho} {ta tb : TE} {d : PyData} {Po : V → Hp → Prop} (ha : EvS ta ρ (.im d)) (hb : EvP tb ρ Po) (hP : StableP Po) : RunS (tRet (tTup (tCons ta (tCons tb tNil)))) ρ (.rp (pairP d Po)) := fun B σ H D S q =>
  ha B σ H _ S fun v H1 g1 r1 => hb B σ H1 _ (S.grow g1) fun u H2 g2 r2 => ⟨by show 2 ≤ sizeLine; rw [sizeLine_eq]; decide, fun p hp => by
    have g3 := Gr.new (.tup [v, u]) hp
    exact q _ _ (S.gr.trans ((g1.trans g2).trans g3)) ⟨p, v, u, rfl, upd_same, (Im.kp g2.kp r1).kp g3.kp, hP _ _ _ g3 r2⟩⟩
/-- a, b = .. where what is unpacked is told -/
theorem rs_asg2P {ρ : Rho} {te : TE} {Po : V → Hp → Prop} {i j : Nat} {x y : SV} (h : EvP te ρ Po) (hp : ∀ v H, Po v H → ∃ a v1 v2, v = .ref a ∧ H a = some (.tup [v1, v2]) ∧ SH H H v1 x ∧ SH H H v2 y) (nx : x.lsty = false) (ny : y.lsty = false) :
    RunS (tAsg te (gTup K 2 (gCons (gName i) (gCons (gName j) gNil)))) ρ (.nx ((ρ.set i (some x)).set j (some y))) := fun B σ H D S q => h B σ H _ S fun v H1 g r => by
  obtain ⟨a, v1, v2, rfl, e, r1, r2⟩ := hp v H1 r
  have S1 := S.grow g
  refine ⟨a, _, rfl, SqT.of e, rfl, _, _, rfl, _, _, rfl, rfl, q _ _ ((S1.set i (r1.back S1.gr) fun z => ?_).set j (r2.back S1.gr) fun z => ?_)⟩
  · rw [nx] at z; cases z
  · rw [ny] at z; cases z
theorem evp_callP {ρ : Rho} {t : TA} {xs : List SV} {R : List SV → (V → Hp → Prop) → Prop} {E : XK} {Po : V → Hp → Prop} (ha : EvA t ρ xs) (hr : R (xs.map SV.arg) Po) (p : xs.all SV.plain = true := by rfl) : EvP (tCall (spP R) [] E t) ρ Po := fun B σ H Q S q =>
  ha B σ H _ S fun vs H1 g1 h1 => by
    show spP R (vs ++ []) H1 Q E
    rw [List.append_nil]
    exact ⟨_, Po, asArgs p h1, hr, fun v H2 g2 h2 => q v H2 (g1.trans g2) h2⟩
/-- values that are no lists -/
def SV.loose : SV → Bool
  | .im _ => true
  | .ob _ _ => true
  | _ => false
theorem loose_any {B B' H H' : Hp} {v : V} : ∀ {x : SV}, SV.loose x = true → Gr H H' → SH B H v x → SH B' H' v x
  | .im _, _, g, h => Im.kp g.kp h
  | .ob _ m, _, g, h => m _ _ _ g.kp h
/-- a list of such values -/
def lstP (xs : List SV) : V → Hp → Prop := fun v H => ∃ l us, v = .ref l ∧ H l = some (.lst us) ∧ Paired (SH H H) us xs
theorem loose_all {B B' H H' : Hp} : ∀ {us : List V} {xs : List SV}, xs.all SV.loose = true → Gr H H' → Paired (SH B H) us xs → Paired (SH B' H') us xs
  | _, _, _, _, .nil => .nil
  | _, _, p, g, .cons a r => by
    rw [List.all_cons, Bool.and_eq_true] at p
    exact .cons (loose_any p.1 g a) (loose_all p.2 g r)
theorem lstP_stable {xs : List SV} (h : xs.all SV.loose = true) : StableP (lstP xs) := fun v H H' g ⟨l, us, e, el, r⟩ => ⟨l, us, e, g _ _ el, loose_all h g r⟩
theorem evp_ro {ρ : Rho} {te : TE} {ds : List PyData} (h : EvS te ρ (.ro ds)) : EvP te ρ (lstP (ds.map .im)) := fun B σ H Q S q => h B σ H _ S fun v H1 g ⟨l, us, e, el, r⟩ => q v H1 g ⟨l, us, e, el, im_paired r⟩
where im_paired {H : Hp} : ∀ {us : List V} {ds : List PyData}, Ims H us ds → Paired (SH H H) us (ds.map .im)
  | _, _, .nil => .nil
  | _, _, .cons a r => .cons a (im_paired r)
/-- ended(words, at, [..]) -/
theorem evp_ended {ρ : Rho} {tw tk : TE} {t : TA} {xs : List SV} {ws : List Str} {x : SV} (hw : EvS tw ρ x) (ex : x.arg = .ro (ws.map .str)) (hk : EvS tk ρ (.im (.int ws.length))) (ha : EvA t ρ xs) (hx : xs.all SV.loose = true) (hl : xs.length ≤ 10) (px : x.plain = true := by rfl) :
    EvP (tCall (spD R_ended) [] E0 (tCons tw (tCons tk (tCons (tLst t) tNil)))) ρ (lstP xs) := fun B σ H Q S q =>
  hw B σ H _ S fun v H1 g1 r1 => hk B σ H1 _ (S.grow g1) fun u H2 g2 r2 => ha B σ H2 _ ((S.grow g1).grow g2) fun us H3 g3 r3 => by
    have len : ∀ {us : List V} {xs : List SV}, Paired (SH H2 H3) us xs → us.length = xs.length := fun h => by
      induction h with
      | nil => rfl
      | cons _ _ ih => exact congrArg (· + 1) ih
    refine ⟨by rw [len r3, sizeLine_eq]; omega, fun l hl0 => ?_⟩
    have g4 := Gr.new (.lst us) hl0
    have w4 := ((((r1.gr g2).gr g3).gr g4).asArg px)
    rw [ex] at w4
    refine ⟨[.ro (ws.map .str), .im (.int ws.length), .rf l], .rf l, .cons w4 (.cons ((Im.kp g3.kp r2).kp g4.kp) (.cons rfl .nil)), ⟨ws, .rf l, rfl, rfl, rfl, rfl⟩, fun v5 H5 g5 e5 => ?_⟩
    cases e5
    exact q _ H5 ((((g1.trans g2).trans g3).trans g4).trans g5) ⟨l, us, rfl, g5 _ _ upd_same, loose_all hx (g4.trans g5) r3⟩
def spRI (K : PySem.W.Frag) : Sp := fun vs H Q _ => ∃ (p dx : Addr) (u : V) (k : Nat), vs = [.ref p, u, .int k] ∧ H p = some (.ins (He.ga K "Reading") dx []) ∧ ∀ H' : Hp, (∀ a, a ≠ p → H' a = H a) → H' p = some (.ins (He.ga K "Reading") dx (rF u k 0)) → Q .non H'
theorem len_RI : ∀ vs H Q E, spRI K vs H Q E → vs.length = 3 := by
  rintro vs H Q E ⟨_, _, _, _, rfl, _⟩
  rfl

theorem sc_Reading_init : FnScope ["self", "row", "at"] ["self", "row", "at"] (defScope s_Reading_init) := ⟨rfl, rfl, rfl, by decide +kernel, rfl, by decide +kernel, by decide +kernel⟩
def t_Reading_init (K : PySem.W.Frag) (P : Program) (w : World) : TS := tSeq (sFld K (tVar 0) (tVar 1) "row") (tSeq (sFld K (tVar 0) (tVar 2) "at") (sFld K (tVar 0) (tC (.int 0)) "many"))
theorem run_Reading_init (T : Tx K mg) (vs : List V) (H : Hp) (Q : VK) (E : XK) (h : spRI K vs H Q E) : t_Reading_init K P w { nx := fun _ H' => Q .non H', rt := Q } (L2.start ["self", "row", "at"] vs) H := by
  obtain ⟨p, dx, u, k, rfl, hp, q⟩ := h
  refine ⟨u, rfl, _, rfl, p, _, dx, [], rfl, hp, (T.cls 111 (x := "Reading") rfl), (T.noat 130 (x := "Reading") (f := "row") rfl), (by show 0 < 1000; decide), _, rfl, _, rfl, p, _, dx, _, rfl, upd_same, (T.cls 111 (x := "Reading") rfl), (T.noat 131 (x := "Reading") (f := "at") rfl), (by show 1 < 1000; decide), _, rfl, p, _, dx, _, rfl, upd_same, (T.cls 111 (x := "Reading") rfl), (T.noat 132 (x := "Reading") (f := "many") rfl), ?_, q _ (fun a ha => by rw [upd_ne ha, upd_ne ha, upd_ne ha]) ?_⟩
  · rw [put_nil, put_past (by decide), put_nil]
    show 2 < 1000
    decide
  · rw [upd_same, put_nil, put_past (by decide), put_nil, put_past (by decide), put_past (by decide), put_nil]
    rfl
theorem O_Reading_init (T : Tx K mg) : Ok P w K mg base CX0 1 d_Reading_init ["self", "row", "at"] (spRI K) := by
  obtain ⟨fd, F⟩ := T.fn 47 d_Reading_init rfl
  exact ok_v (t := t_Reading_init K P w) F sc_Reading_init (fun _ _ _ _ _ _ us hl => match us, hl with | [_, _, _], _ => rfl) len_RI (fun cdv A outer s H E hr => pss_cons (ps_fld (pv 0) (pv 1) rfl) (pss_cons (ps_fld (pv 0) (pv 2) rfl) (pss_one (ps_fld (pv 0) (pe_int) rfl)))) (run_Reading_init T)
def planP (K : PySem.W.Frag) (t : Tree) (k : Nat) : V → Hp → Prop := fun v H => ∃ a pv, v = .ref a ∧ H a = some (.tup [pv, .int k]) ∧ PlanAt K t pv H
def R_plan_from (K : PySem.W.Frag) (n : Nat) : List SV → (V → Hp → Prop) → Prop := fun xs Po => ∃ (ws : List Str) (k : Nat) (t : Tree), xs = [.ro (ws.map .str), .im (.int k)] ∧ AtW ws k (wordsF t) ∧ ws.length < 100000 ∧ dep t ≤ n ∧ dep t ≤ 11 ∧ goodT t ∧ nodes t ≤ 40 ∧ Po = planP K t (k + (wordsF t).length)
theorem len_plan_from (n : Nat) : ∀ xs z, R_plan_from K n xs z → xs.length = 2 := by
  rintro xs z ⟨_, _, _, rfl, _⟩
  rfl

theorem sc_plan_from : FnScope ["words", "at", "reading", "plan"] ["words", "at"] (defScope s_plan_from) := ⟨rfl, rfl, rfl, by decide +kernel, rfl, by decide +kernel, by decide +kernel⟩
def t_plan_from (K : PySem.W.Frag) (P : Program) (w : World) (n : Nat) : TS := tSeq (tAsg (tMake (He.ga K "Reading") (spRI K) [] E0 (tCons (tVar 0) (tCons (tVar 1) (tNil)))) (gName 2)) (tSeq (tAsg (tMeth (He.ga K "Reading") "next_plan" (spPl K n) [] E0 (tVar 2) (tCons (tC (.int 1)) (tNil))) (gName 3)) (tRet (tTup (tCons (tVar 3) (tCons (tFld K (tVar 2) "at") (tNil))))))
theorem run_plan_from (T : Tx K mg) {n : Nat} : ∀ xs Po, R_plan_from K n xs Po → RunS (t_plan_from K P w n) (xs.map some ++ List.replicate (4 - xs.length) none) (.rp Po) := by
  rintro xs Po ⟨ws, k, t, rfl, hat, hl, hd, hd2, hg, hn, rfl⟩ B σ H D S q
  obtain ⟨v0, e0, r, us, rfl, hr, iu⟩ := S.at_ 0 _ rfl
  obtain ⟨v1, e1, i1⟩ := S.at_ 1 _ rfl
  cases Im.int_v i1
  have eu : us = ws.map V.str := strs_of iu
  subst eu
  have hs : σ.length = 4 := S.len
  obtain ⟨x2, x3, rfl⟩ : ∃ x2 x3, σ = [some (.ref r), some (.int k), x2, x3] := by
    match σ, hs, e0, e1 with
    | [y0, y1, y2, y3], _, e0, e1 => cases e0; cases e1; exact ⟨y2, y3, rfl⟩
  refine ⟨_, rfl, _, rfl, ?_⟩
  intro a dx ha hdx hne
  refine ⟨a, dx, .ref r, k, rfl, upd_same, fun H1 same h1 => ⟨rfl, ?_⟩⟩
  have gr := gr_made ha hdx same
  have R1 : Rd K ws k 0 a dx r H1 := ⟨h1, gr _ _ hr⟩
  refine ⟨_, rfl, a, dx, _, rfl, R1.1, rF_no (by decide) (by decide) (by decide), a, dx, r, ws, k, 0, t, 1, rfl, R1, hat, hl, ⟨hd, hg, by omega, by omega⟩, fun pv H2 sm R2 pl => ?_⟩
  refine ⟨_, rfl, _, rfl, a, _, dx, _, _, rfl, R2.1, (T.cls 111 (x := "Reading") rfl), (T.noat 131 (x := "Reading") (f := "at") rfl), rF_at, by show 2 ≤ sizeLine; rw [sizeLine_eq]; decide, fun p hp => ?_⟩
  have g3 := Gr.new (.tup [pv, .int ((k + (wordsF t).length : Nat) : Int)]) hp
  refine q _ _ (fun b o e => ?_) ⟨p, pv, rfl, upd_same, pl.kp g3.kp⟩
  have e2 := S.gr b o e
  refine g3 _ _ (sm b o (gr b o e2) fun z => ?_)
  rw [z, ha] at e2
  cases e2
theorem O_plan_from (T : Tx K mg) (n : Nat) : Ok P w K mg base CX0 (2 * n + 7) d_plan_from ["words", "at"] (spP (R_plan_from K n)) := by
  obtain ⟨fd, F⟩ := T.fn 54 d_plan_from rfl
  exact ok_dataP (t := t_plan_from K P w n) F sc_plan_from (fun _ _ _ _ _ _ us hl => match us, hl with | [_, _], _ => rfl) (len_plan_from n) (by decide) (fun cdv A outer s H E hr => pss_cons (ps_set (i := 2) sc_plan_from.nd rfl (by first | exact Or.inl rfl | exact Or.inr rfl) (pe_makeO (d := d_Reading_init) (T.mkr 133 (x := "Reading") rfl) (O_Reading_init T) (hr.mono (by omega)) rfl (T.glo 110 rfl) (pa_cons (pv 0) (pa_cons (pv 1) (pa_nil))))) (pss_cons (ps_set (i := 3) sc_plan_from.nd rfl (by first | exact Or.inl rfl | exact Or.inr rfl) (pe_methO (d := d_Reading_next_plan) (pv 2) (T.cls 111 (x := "Reading") rfl) (T.meth 173 (x := "Reading") (m := "next_plan") rfl) (O_np T n) (hr.mono (by first | decide | omega)) (pa_cons (pe_int) (pa_nil)))) (pss_one (ps_ret (pe_tup (pa_cons (pv 3) (pa_cons (pe_fld (pv 2) rfl) (pa_nil)))))))) (run_plan_from T)
end K91
/-! ==== K18 -/
set_option maxRecDepth 100000
set_option maxHeartbeats 4000000
namespace K91
open PySem PySem.Spec PyProof.Rows L2 SG DL
variable {P : Program} {w : World} {K : PySem.W.Frag} {mg : Str → Option Value} {base : Heap}
theorem rs_ifRp {tc : TT} {t u v : TS} {ρ : Rho} {P : V → Hp → Prop} (hc : EvT tc ρ true) (h : RunS t ρ (.rp P)) : RunS (tSeq (tIfS tc t u) v) ρ (.rp P) := rs_seqRp (rs_if hc (fun _ => h) fun z => nomatch z)
theorem rs_ifRpE {tc : TT} {t u : TS} {ρ : Rho} {P : V → Hp → Prop} (hc : EvT tc ρ true) (h : RunS t ρ (.rp P)) : RunS (tIfS tc t u) ρ (.rp P) := rs_if hc (fun _ => h) fun z => nomatch z
theorem rs_retP {te : TE} {ρ : Rho} {Po : V → Hp → Prop} (h : EvP te ρ Po) : RunS (tRet te) ρ (.rp Po) := fun B σ H D S q => h B σ H _ S fun v H1 g r => q v H1 (S.gr.trans g) r
/-- a row of words -/
inductive RowK where
  | bare (x : Str) | cell (x : Str) (c : Cell) | turn (t : Int) | pic (c : Cell) | plan (t : Tree) | why (c : Cell)
def rowTag : RowK → Str
  | .bare x => x
  | .cell x _ => x
  | .turn _ => "turn"
  | .pic _ => "show"
  | .plan _ => "do"
  | .why _ => "why"
def rowW : RowK → List Str
  | .bare x => [x]
  | .cell x c => [x, numT c.1, numT c.2]
  | .turn t => ["turn", numT t]
  | .pic c => ["show", numT c.1, numT c.2, numT 1, numT 1]
  | .plan t => ("do" : Str) :: wordsF t
  | .why c => ["why", numT c.1, numT c.2, "keep"]
def rowV (K : PySem.W.Frag) : RowK → List SV
  | .bare _ => []
  | .cell _ c => [.im (cD c)]
  | .turn t => [.im (.int t)]
  | .pic c => [.im (.int c.1), .im (.int c.2), .im (.int 1), .im (.int 1)]
  | .plan t => [plV K t]
  | .why c => [.im (cD c), plV K .keep]
def BAREL : List Str := ["out", "thin", "back", "count", "parts", "holes", "deeds"]
def OFCL : List Str := ["put", "take", "move", "has"]
def planOk (n : Nat) (t : Tree) : Prop := dep t ≤ n ∧ dep t ≤ 11 ∧ goodT t ∧ nodes t ≤ 40 ∧ (wordsF t).length ≤ 1000
def rowOk (n : Nat) : RowK → Prop
  | .bare x => x ∈ BAREL
  | .cell x c => x ∈ OFCL ∧ farC c = true
  | .turn t => 0 ≤ t ∧ t < 8
  | .pic c => farC c = true
  | .plan t => planOk n t
  | .why c => farC c = true
def rowT (r : RowK) : Str := Txt.join " " (rowW r)
theorem atW_cons {x : Str} {l : List Str} : AtW (x :: l) 1 l := fun j y e => by rw [Nat.add_comm]; exact e
def R_of_plans (K : PySem.W.Frag) (n : Nat) : List SV → (V → Hp → Prop) → Prop := fun xs Po => (∃ t : Tree, xs = [.ro ((rowW (.plan t)).map .str)] ∧ planOk n t ∧ Po = lstP (rowV K (.plan t))) ∨ ∃ c : Cell, xs = [.ro ((rowW (.why c)).map .str)] ∧ farC c = true ∧ Po = lstP (rowV K (.why c))
theorem len_of_plans (n : Nat) : ∀ xs z, R_of_plans K n xs z → xs.length = 1 := by
  rintro xs z (⟨_, rfl, _⟩ | ⟨_, rfl, _⟩) <;> rfl

theorem sc_of_plans : FnScope ["words", "plan", "at", "cell", "one", "other", "behind"] ["words"] (defScope s_of_plans) := ⟨rfl, rfl, rfl, by decide +kernel, rfl, by decide +kernel, by decide +kernel⟩
def t_of_plans (K : PySem.W.Frag) (P : Program) (w : World) (n : Nat) : TS := tSeq (tIfS (tTest (tOp (rEqD K) (tOp (rIx K) (tVar 0) (tC (.int 0))) (tC (.str "do")))) (tSeq (tAsg (tCall (spP (R_plan_from K n)) [] E0 (tCons (tVar 0) (tCons (tC (.int 1)) (tNil)))) (gTup K 2 (gCons (gName 1) (gCons (gName 2) (gNil))))) (tRet (tCall (spD R_ended) [] E0 (tCons (tVar 0) (tCons (tVar 2) (tCons (tLst (tCons (tVar 1) (tNil))) (tNil))))))) (tNext)) (tSeq (tIfS (tTest (tOp (rEqD K) (tOp (rIx K) (tVar 0) (tC (.int 0))) (tC (.str "why")))) (tSeq (tAsg (tCall (spD R_cell_at) [] E0 (tCons (tVar 0) (tCons (tC (.int 1)) (tNil)))) (gName 3)) (tSeq (tAsg (tCall (spP (R_plan_from K n)) [] E0 (tCons (tVar 0) (tCons (tC (.int 3)) (tNil)))) (gTup K 2 (gCons (gName 1) (gCons (gName 2) (gNil))))) (tRet (tCall (spD R_ended) [] E0 (tCons (tVar 0) (tCons (tVar 2) (tCons (tLst (tCons (tVar 3) (tCons (tVar 1) (tNil)))) (tNil)))))))) (tNext)) (tNever))
theorem run_of_plans (T : Tx K mg) {n : Nat} : ∀ xs Po, R_of_plans K n xs Po → RunS (t_of_plans K P w n) (xs.map some ++ List.replicate (7 - xs.length) none) (.rp Po) := by
  rintro xs Po (⟨t, rfl, ⟨h1, h2, h3, h4, h5⟩, rfl⟩ | ⟨c, rfl, hf, rfl⟩)
  · have hl : (rowW (.plan t)).length < 100000 := by show (wordsF t).length + 1 < _; omega
    refine rs_ifRp (et_to (show decide (("do" : Str) = "do") = true by decide) (et_test (es_isT (es_op (z := .im (.str "do")) (es_var (x := .ro ((rowW (.plan t)).map .str)) rfl rfl) es_int (s_ixL rfl (atI_nat (j := 0) (xs := (rowW (.plan t)).map .str) rfl))) (by decide +kernel) (by decide +kernel))))
      (rs_seq (rs_asg2P (x := plV K t) (y := .im (.int ((1 + (wordsF t).length : Nat) : Int))) (evp_callP (ea_cons (es_var (x := .ro ((rowW (.plan t)).map .str)) rfl rfl) (ea_cons es_int ea_nil)) ⟨rowW (.plan t), 1, t, rfl, atW_cons, hl, h1, h2, h3, h4, rfl⟩) (fun v H h => by
        obtain ⟨a, pv, e, ea, pl⟩ := h
        exact ⟨a, pv, _, e, ea, pl, .int _⟩) rfl rfl)
      (rs_retP (evp_ended (x := .ro ((rowW (.plan t)).map .str)) (es_var (x := .ro ((rowW (.plan t)).map .str)) rfl rfl) rfl (es_to (by rw [Nat.add_comm] <;> rfl) (es_im (d := .int ((1 + (wordsF t).length : Nat) : Int)) rfl)) (ea_cons (es_var (x := plV K t) rfl rfl) ea_nil) rfl (by show 1 ≤ 10; decide))))
  · refine rs_ifNo (et_to (show decide (("why" : Str) = "do") = false by decide) (et_test (es_isT (es_op (z := .im (.str "why")) (es_var (x := .ro ((rowW (.why c)).map .str)) rfl rfl) es_int (s_ixL rfl (atI_nat (j := 0) (xs := (rowW (.why c)).map .str) rfl))) (by decide +kernel) (by decide +kernel))))
      (rs_ifRp (et_to (show decide (("why" : Str) = "why") = true by decide) (et_test (es_isT (es_op (z := .im (.str "why")) (es_var (x := .ro ((rowW (.why c)).map .str)) rfl rfl) es_int (s_ixL rfl (atI_nat (j := 0) (xs := (rowW (.why c)).map .str) rfl))) (by decide +kernel) (by decide +kernel))))
      (rs_seq (rs_asg (es_call (z := .im (cD c)) (ea_cons (es_var (x := .ro ((rowW (.why c)).map .str)) rfl rfl) (ea_cons es_int ea_nil)) ⟨rowW (.why c), 1, c, rfl, rfl, rfl, by show 4 < 100000; decide, hf, rfl⟩))
      (rs_seq (rs_asg2P (x := plV K .keep) (y := .im (.int ((3 + 1 : Nat) : Int))) (evp_callP (ea_cons (es_var (x := .ro ((rowW (.why c)).map .str)) rfl rfl) (ea_cons es_int ea_nil)) ⟨rowW (.why c), 3, .keep, rfl, (fun j x e => by
          cases j with
          | zero => exact e
          | succ j => simp [wordsF] at e), by show 4 < 100000; decide, by show 0 ≤ n; omega, by show 0 ≤ 11; omega, trivial, by show 1 ≤ 40; omega, rfl⟩) (fun v H h => by
        obtain ⟨a, pv, e, ea, pl⟩ := h
        exact ⟨a, pv, _, e, ea, pl, .int _⟩) rfl rfl)
      (rs_retP (evp_ended (x := .ro ((rowW (.why c)).map .str)) (es_var (x := .ro ((rowW (.why c)).map .str)) rfl rfl) rfl (es_im (d := .int ((3 + 1 : Nat) : Int)) rfl) (ea_cons (es_im rfl) (ea_cons (es_var (x := plV K .keep) rfl rfl) ea_nil)) rfl (by show 2 ≤ 10; decide))))))
theorem O_of_plans (T : Tx K mg) (n : Nat) : Ok P w K mg base CX0 (2 * n + 8) d_of_plans ["words"] (spP (R_of_plans K n)) := by
  obtain ⟨fd, F⟩ := T.fn 60 d_of_plans rfl
  exact ok_dataP (t := t_of_plans K P w n) F sc_of_plans (fun _ _ _ _ _ _ us hl => match us, hl with | [_], _ => rfl) (len_of_plans n) (by decide) (fun cdv A outer s H E hr => pss_cons (ps_if (pt_cmpR (op_eqD hr.units) (pe_ix ix_seq (pv 0) (pe_int) (fun _ _ => rfl)) (pe_str) (nomark _)) (pss_cons (ps_asg (pe_own (O_plan_from T n) (hr.mono (by first | decide | omega)) rfl (T.glo 30 rfl) pass0 (pa_cons (pv 0) (pa_cons (pe_int) (pa_nil)))) (pg_tup rfl (pgs_cons (pg_name (i := 1) sc_of_plans.nd rfl (by first | exact Or.inl rfl | exact Or.inr rfl)) (pgs_cons (pg_name (i := 2) sc_of_plans.nd rfl (by first | exact Or.inl rfl | exact Or.inr rfl)) (pgs_nil))))) (pss_one (ps_ret (pe_own (O_ended T) (hr.mono (by first | decide | omega)) rfl (T.glo 34 rfl) pass0 (pa_cons (pv 0) (pa_cons (pv 2) (pa_cons (pe_lst (pa_cons (pv 1) (pa_nil))) (pa_nil)))))))) (pss_nil)) (pss_cons (ps_if (pt_cmpR (op_eqD hr.units) (pe_ix ix_seq (pv 0) (pe_int) (fun _ _ => rfl)) (pe_str) (nomark _)) (pss_cons (ps_set (i := 3) sc_of_plans.nd rfl (by first | exact Or.inl rfl | exact Or.inr rfl) (pe_own (O_cell_at T) (hr.mono (by first | decide | omega)) rfl (T.glo 33 rfl) pass0 (pa_cons (pv 0) (pa_cons (pe_int) (pa_nil))))) (pss_cons (ps_asg (pe_own (O_plan_from T n) (hr.mono (by first | decide | omega)) rfl (T.glo 30 rfl) pass0 (pa_cons (pv 0) (pa_cons (pe_int) (pa_nil)))) (pg_tup rfl (pgs_cons (pg_name (i := 1) sc_of_plans.nd rfl (by first | exact Or.inl rfl | exact Or.inr rfl)) (pgs_cons (pg_name (i := 2) sc_of_plans.nd rfl (by first | exact Or.inl rfl | exact Or.inr rfl)) (pgs_nil))))) (pss_one (ps_ret (pe_own (O_ended T) (hr.mono (by first | decide | omega)) rfl (T.glo 34 rfl) pass0 (pa_cons (pv 0) (pa_cons (pv 2) (pa_cons (pe_lst (pa_cons (pv 3) (pa_cons (pv 1) (pa_nil)))) (pa_nil))))))))) (pss_nil)) (pss_never))) (run_of_plans T)

theorem s_split' {ρ : Rho} {te te2 : TE} {a b : Str} (h1 : (b.length == 0) = false) (h2 : a.length ≤ 100000) (h : EvS te ρ (.im (.str a))) (hb : EvS te2 ρ (.im (.str b))) : EvS (tM1 xSplit te te2) ρ (.own ((Txt.split a b).map .str)) := s_split h1 h2 h hb
theorem r_split {X : Cx} {o e : Expr} {to te : TE} {apos pos : Pos} (ho : PE X o to) (he : PE X e te) (hs : starEach [e] X.env = [(false, eval e X.env)] := by rfl) (hbase : attributeBase o "split" X.env (eval o X.env) = eval o X.env := by rfl) (hline : (apos.endLine == pos.line) = true := by rfl) :
    PE X (.Call (.Attribute o "split" apos) [e] [] pos) (tM1 xSplit to te) := pe_m1 F.slot_str_split F.type_str_split mt_split ho he hs hbase hline

theorem sc_read_row : FnScope ["row", "words", "word", "cell", "turn"] ["row"] (defScope s_read_row) := ⟨rfl, rfl, rfl, by decide +kernel, rfl, by decide +kernel, by decide +kernel⟩
def t_read_row (K : PySem.W.Frag) (P : Program) (w : World) (n : Nat) : TS := tSeq (tAsg (tM1 xSplit (tVar 0) (tC (.str " "))) (gName 1)) (tSeq (tAsg (tOp (rIx K) (tVar 1) (tC (.int 0))) (gName 2)) (tSeq (tIfS (tTest (tOp (xIn K false) (tVar 2) (tC (.ref (He.ga K "BARE"))))) (tRet (tTup (tCons (tVar 2) (tCons (tCall (spD R_ended) [] E0 (tCons (tVar 1) (tCons (tC (.int 1)) (tCons (tLst (tNil)) (tNil))))) (tNil))))) (tNext)) (tSeq (tIfS (tTest (tOp (xIn K false) (tVar 2) (tC (.ref (He.ga K "OF_CELLS"))))) (tSeq (tAsg (tCall (spD R_cell_at) [] E0 (tCons (tVar 1) (tCons (tC (.int 1)) (tNil)))) (gName 3)) (tRet (tTup (tCons (tVar 2) (tCons (tCall (spD R_ended) [] E0 (tCons (tVar 1) (tCons (tC (.int 3)) (tCons (tLst (tCons (tVar 3) (tNil))) (tNil))))) (tNil)))))) (tNext)) (tSeq (tIfS (tTest (tOp (rEqD K) (tVar 2) (tC (.str "turn")))) (tSeq (tAsg (tCall (spD R_number_at) [] E0 (tCons (tVar 1) (tCons (tC (.int 1)) (tCons (tC (.int 0)) (tCons (tOp (rI0 fun i j => .int (i - j)) (tC (.int 8)) (tC (.int 1))) (tNil)))))) (gName 4)) (tRet (tTup (tCons (tVar 2) (tCons (tCall (spD R_ended) [] E0 (tCons (tVar 1) (tCons (tC (.int 2)) (tCons (tLst (tCons (tVar 4) (tNil))) (tNil))))) (tNil)))))) (tNext)) (tSeq (tIfS (tTest (tOp (rEqD K) (tVar 2) (tC (.str "show")))) (tRet (tTup (tCons (tVar 2) (tCons (tCall (spD R_shown) [] E0 (tCons (tVar 1) (tNil))) (tNil))))) (tNext)) (tSeq (tIfS (tTest (tOp (xIn K false) (tVar 2) (tTup (tCons (tC (.str "do")) (tCons (tC (.str "why")) (tCons (tC (.str "same")) (tNil))))))) (tRet (tTup (tCons (tVar 2) (tCons (tCall (spP (R_of_plans K n)) [] E0 (tCons (tVar 1) (tNil))) (tNil))))) (tNext)) (tNever)))))))
theorem words_free : ∀ {t : Tree} {x : Str}, x ∈ wordsF t → 32 ∉ TL.tl x := by
  have cw : ∀ {cs : List Cell} {x : Str}, x ∈ cellW cs → 32 ∉ TL.tl x := fun m => by
    obtain ⟨c, _, e | e⟩ := mem_cellW m <;> rw [e] <;> exact num_free _
  intro t
  induction t with
  | none => intro x m; rw [List.mem_singleton.mp m]; decide
  | all => intro x m; rw [List.mem_singleton.mp m]; decide
  | keep => intro x m; rw [List.mem_singleton.mp m]; decide
  | move d t ih =>
    intro x m
    rcases List.mem_append.mp m with m | m
    · rcases List.mem_cons.mp m with e | m
      · rw [e]; decide
      · rcases List.mem_cons.mp m with e | m
        · rw [e]; exact num_free _
        · rw [List.mem_singleton.mp m]; exact num_free _
    · exact ih m
  | eat p0 ps t ih =>
    intro x m
    rcases List.mem_append.mp m with m | m
    · rcases List.mem_append.mp m with m | m
      · rcases List.mem_cons.mp m with e | m
        · rw [e]; decide
        · rw [List.mem_singleton.mp m]; exact num_free _
      · exact cw m
    · exact ih m
  | grow p0 ps t ih =>
    intro x m
    rcases List.mem_append.mp m with m | m
    · rcases List.mem_append.mp m with m | m
      · rcases List.mem_cons.mp m with e | m
        · rw [e]; decide
        · rw [List.mem_singleton.mp m]; exact num_free _
      · exact cw m
    · exact ih m
  | both a b iha ihb =>
    intro x m
    rcases List.mem_append.mp m with m | m
    · rcases List.mem_append.mp m with m | m
      · rw [List.mem_singleton.mp m]; decide
      · exact iha m
    · exact ihb m
  | either a b iha ihb =>
    intro x m
    rcases List.mem_append.mp m with m | m
    · rcases List.mem_append.mp m with m | m
      · rw [List.mem_singleton.mp m]; decide
      · exact iha m
    · exact ihb m
theorem good_small : ∀ {t : Tree}, goodT t → smallT t = true := by
  intro t
  induction t with
  | none => intro _; rfl
  | all => intro _; rfl
  | keep => intro _; rfl
  | move d t ih => intro h; simp only [smallT, Bool.and_eq_true]; exact ⟨h.1, ih h.2⟩
  | eat p0 ps t ih => intro h; simp only [smallT, Bool.and_eq_true, decide_eq_true_iff]; exact ⟨⟨by have := h.1.2.1; rw [List.length_cons] at this; omega, h.1.2.2⟩, ih h.2⟩
  | grow p0 ps t ih => intro h; simp only [smallT, Bool.and_eq_true, decide_eq_true_iff]; exact ⟨⟨by have := h.1.2.1; rw [List.length_cons] at this; omega, h.1.2.2⟩, ih h.2⟩
  | both a b iha ihb => intro h; simp only [smallT, Bool.and_eq_true]; exact ⟨iha h.1, ihb h.2⟩
  | either a b iha ihb => intro h; simp only [smallT, Bool.and_eq_true]; exact ⟨iha h.1, ihb h.2⟩
theorem far_len {i : Int} (h : i.natAbs ≤ 1000000000000) : (numT i).length ≤ 20 := Nat.le_trans (num_len (k := 13) (by decide) (Nat.lt_of_le_of_lt h (by decide))) (by decide)
theorem farC_iff {c : Cell} (h : farC c = true) : c.1.natAbs ≤ 1000000000000 ∧ c.2.natAbs ≤ 1000000000000 := by
  unfold farC at h
  rwa [Bool.and_eq_true, decide_eq_true_iff, decide_eq_true_iff] at h
/-- no blank in a word, no word long -/
theorem row_words {n : Nat} {r : RowK} (h : rowOk n r) : (∀ x ∈ rowW r, 32 ∉ TL.tl x ∧ x.length ≤ 20) ∧ (rowW r).length ≤ 1001 ∧ rowW r ≠ [] := by
  have bl : ∀ x ∈ BAREL, 32 ∉ TL.tl x ∧ x.length ≤ 20 := by decide
  have ol : ∀ x ∈ OFCL, 32 ∉ TL.tl x ∧ x.length ≤ 20 := by decide
  cases r with
  | bare x => exact ⟨fun y m => by rw [List.mem_singleton.mp m]; exact bl x h, by show 1 ≤ _; decide, by simp [rowW]⟩
  | cell x c =>
    have f := farC_iff h.2
    refine ⟨fun y m => ?_, by show 3 ≤ _; decide, by simp [rowW]⟩
    rcases List.mem_cons.mp m with e | m
    · rw [e]; exact ol x h.1
    · rcases List.mem_cons.mp m with e | m
      · rw [e]; exact ⟨num_free _, far_len f.1⟩
      · rw [List.mem_singleton.mp m]; exact ⟨num_free _, far_len f.2⟩
  | turn t =>
    refine ⟨fun y m => ?_, by show 2 ≤ _; decide, by simp [rowW]⟩
    rcases List.mem_cons.mp m with e | m
    · rw [e]; decide
    · rw [List.mem_singleton.mp m]; exact ⟨num_free _, far_len (by have := h.1; have := h.2; omega)⟩
  | pic c =>
    have f := farC_iff h
    refine ⟨fun y m => ?_, by show 5 ≤ _; decide, by simp [rowW]⟩
    rcases List.mem_cons.mp m with e | m
    · rw [e]; decide
    · rcases List.mem_cons.mp m with e | m
      · rw [e]; exact ⟨num_free _, far_len f.1⟩
      · rcases List.mem_cons.mp m with e | m
        · rw [e]; exact ⟨num_free _, far_len f.2⟩
        · rcases List.mem_cons.mp m with e | m
          · rw [e]; exact ⟨num_free _, far_len (by decide)⟩
          · rw [List.mem_singleton.mp m]; exact ⟨num_free _, far_len (by decide)⟩
  | plan t =>
    refine ⟨fun y m => ?_, by have := h.2.2.2.2; show (wordsF t).length + 1 ≤ _; omega, by simp [rowW]⟩
    rcases List.mem_cons.mp m with e | m
    · rw [e]; decide
    · exact ⟨words_free m, words_len (good_small h.2.2.1) m⟩
  | why c =>
    have f := farC_iff h
    refine ⟨fun y m => ?_, by show 4 ≤ _; decide, by simp [rowW]⟩
    rcases List.mem_cons.mp m with e | m
    · rw [e]; decide
    · rcases List.mem_cons.mp m with e | m
      · rw [e]; exact ⟨num_free _, far_len f.1⟩
      · rcases List.mem_cons.mp m with e | m
        · rw [e]; exact ⟨num_free _, far_len f.2⟩
        · rw [List.mem_singleton.mp m]; decide
theorem row_split {n : Nat} {r : RowK} (h : rowOk n r) : Txt.split (rowT r) " " = rowW r := TL.split_join (s := 32) (S := []) rfl (by decide +kernel) (row_words h).2.2 fun p hp => ((row_words h).1 p hp).1
theorem joinL_len : ∀ ps : List (List Nat), (TL.joinL [32] ps).length ≤ (ps.map List.length).sum + ps.length
  | [] => by simp [TL.joinL]
  | [p] => by simp [TL.joinL]
  | p :: q :: r => by
    have := joinL_len (q :: r)
    simp only [TL.joinL, List.length_append, List.map_cons, List.sum_cons, List.length_cons, List.length_nil] at this ⊢
    omega
theorem row_len {n : Nat} {r : RowK} (h : rowOk n r) : (rowT r).length ≤ 100000 := by
  obtain ⟨h1, h2, _⟩ := row_words h
  show (rowT r).cps.size ≤ _
  rw [← Array.length_toList]
  show (TL.tl (rowT r)).length ≤ _
  unfold rowT
  rw [TL.join_eq, TL.tl_join]
  have a := joinL_len ((rowW r).map TL.tl)
  have b : (((rowW r).map TL.tl).map List.length).sum ≤ 20 * (rowW r).length := by
    have := sum_le (n := 20) (l := rowW r) fun x hx => (h1 x hx).2
    rw [List.map_map]
    have e : (List.length ∘ TL.tl) = (fun x : Str => x.length) := funext fun x => Array.length_toList
    rw [e]
    exact this
  rw [List.length_map] at a
  have e : TL.tl (" " : Str) = [32] := rfl
  rw [e]
  omega
end K91
/-! ==== K19 -/
set_option maxRecDepth 100000
set_option maxHeartbeats 4000000
namespace K91
open PySem PySem.Spec PyProof.Rows L2 SG DL
variable {P : Program} {w : World} {K : PySem.W.Frag} {mg : Str → Option Value} {base : Heap}
theorem es_inG {ρ : Rho} {te : TE} {x : Str} {a : Addr} {l : List Str} (h : EvS te ρ (.im (.str x))) (hw : ∀ H, SqT K H a (l.map V.str)) (hx : PyData.strOk x = true) (hl : l.all PyData.strOk = true) : EvS (tOp (xIn K false) te (tC (.ref a))) ρ (.im (.bool (decide (x ∈ l)))) :=
  es_to (congrArg (fun b => SV.im (.bool b)) (any_str l x)) (es_op h es_ref (s_inW hw (str_shaped hx) (strs_shaped hl)))
def R_read_row (K : PySem.W.Frag) (n : Nat) : List SV → (V → Hp → Prop) → Prop := fun xs Po => ∃ r : RowK, xs = [.im (.str (rowT r))] ∧ rowOk n r ∧ Po = pairP (.str (rowTag r)) (lstP (rowV K r))
theorem len_read_row (n : Nat) : ∀ xs z, R_read_row K n xs z → xs.length = 1 := by
  rintro xs z ⟨_, rfl, _⟩
  rfl
theorem row_head (r : RowK) : (rowW r)[0]? = some (rowTag r) := by cases r <;> rfl
theorem run_read_row (T : Tx K mg) {n : Nat} : ∀ xs Po, R_read_row K n xs Po → RunS (t_read_row K P w n) (xs.map some ++ List.replicate (5 - xs.length) none) (.rp Po) := by
  rintro xs Po ⟨r, rfl, hr, rfl⟩
  have sp := row_split hr
  have bo : ∀ x ∈ BAREL, PyData.strOk x = true := by decide +kernel
  have oo : ∀ x ∈ OFCL, PyData.strOk x = true ∧ decide (x ∈ BAREL) = false := by decide +kernel
  refine rs_seq (ρ1 := [some (.im (.str (rowT r))), some (.own ((rowW r).map .str)), none, none, none]) (rs_nx (by rw [sp] <;> rfl) (rs_asg (s_split' (a := rowT r) (b := " ") (by decide) (row_len hr) (es_im rfl) es_str)))
    (rs_seq (rs_asg (es_op (z := .im (.str (rowTag r))) (es_var (x := .own ((rowW r).map .str)) rfl rfl) es_int (s_ixL rfl (atI_nat (j := 0) (by rw [List.getElem?_map, row_head] <;> rfl))))) ?_)
  cases r with
  | bare x =>
    exact rs_ifRp (et_to (decide_eq_true (p := x ∈ BAREL) hr) (et_test (es_inG (l := BAREL) (x := x) (es_im rfl) (T.tup 1 (x := "BARE") rfl) (bo x hr) (by decide +kernel)))) (rs_retPair (es_im rfl) (evp_ended (xs := []) (es_var (x := .own ((rowW (.bare x)).map .str)) rfl rfl) rfl es_int ea_nil rfl (by decide)) (lstP_stable rfl))
  | cell x c =>
    have ox := oo x hr.1
    exact rs_ifNo (et_to ox.2 (et_test (es_inG (l := BAREL) (x := x) (es_im rfl) (T.tup 1 (x := "BARE") rfl) ox.1 (by decide +kernel)))) (rs_ifRp (et_to (decide_eq_true hr.1) (et_test (es_inG (l := OFCL) (x := x) (es_im rfl) (T.tup 2 (x := "OF_CELLS") rfl) ox.1 (by decide +kernel))))
      (rs_seq (rs_asg (es_call (z := .im (cD c)) (ea_cons (es_var (x := .own ((rowW (.cell x c)).map .str)) rfl rfl) (ea_cons es_int ea_nil)) ⟨rowW (.cell x c), 1, c, rfl, rfl, rfl, by show 3 < 100000; decide, hr.2, rfl⟩))
      (rs_retPair (es_im rfl) (evp_ended (xs := [.im (cD c)]) (es_var (x := .own ((rowW (.cell x c)).map .str)) rfl rfl) rfl es_int (ea_cons (es_im rfl) ea_nil) rfl (by show 1 ≤ 10; decide)) (lstP_stable rfl))))
  | turn t =>
    exact rs_ifNo (et_to (by show decide (("turn" : Str) ∈ BAREL) = false; decide) (et_test (es_inG (l := BAREL) (x := "turn") (es_im rfl) (T.tup 1 (x := "BARE") rfl) (by decide +kernel) (by decide +kernel)))) (rs_ifNo (et_to (by show decide (("turn" : Str) ∈ OFCL) = false; decide) (et_test (es_inG (l := OFCL) (x := "turn") (es_im rfl) (T.tup 2 (x := "OF_CELLS") rfl) (by decide +kernel) (by decide +kernel)))) (rs_ifRp (et_to (by show decide (("turn" : Str) = "turn") = true; decide) (et_test (es_isT (x := "turn") (es_im rfl) (by decide +kernel) (by decide +kernel))))
      (rs_seq (rs_asg (es_call (z := .im (.int t)) (ea_cons (es_var (x := .own ((rowW (.turn t)).map .str)) rfl rfl) (ea_cons es_int (ea_cons es_int (ea_cons (es_op es_int es_int s_sub) ea_nil)))) ⟨rowW (.turn t), 1, t, 0, 8 - 1, rfl, rfl, by show 2 < 100000; decide, by have := hr.1; have := hr.2; omega, hr.1, by have := hr.2; omega, rfl⟩))
      (rs_retPair (es_im rfl) (evp_ended (xs := [.im (.int t)]) (es_var (x := .own ((rowW (.turn t)).map .str)) rfl rfl) rfl es_int (ea_cons (es_im rfl) ea_nil) rfl (by show 1 ≤ 10; decide)) (lstP_stable rfl)))))
  | pic c =>
    exact rs_ifNo (et_to (by show decide (("show" : Str) ∈ BAREL) = false; decide) (et_test (es_inG (l := BAREL) (x := "show") (es_im rfl) (T.tup 1 (x := "BARE") rfl) (by decide +kernel) (by decide +kernel)))) (rs_ifNo (et_to (by show decide (("show" : Str) ∈ OFCL) = false; decide) (et_test (es_inG (l := OFCL) (x := "show") (es_im rfl) (T.tup 2 (x := "OF_CELLS") rfl) (by decide +kernel) (by decide +kernel)))) (rs_ifNo (et_to (by show decide (("show" : Str) = "turn") = false; decide) (et_test (es_isT (x := "show") (es_im rfl) (by decide +kernel) (by decide +kernel)))) (rs_ifRp (et_to (by show decide (("show" : Str) = "show") = true; decide) (et_test (es_isT (x := "show") (es_im rfl) (by decide +kernel) (by decide +kernel))))
      (rs_retPair (es_im rfl) (evp_ro (ds := [.int c.1, .int c.2, .int 1, .int 1]) (es_call (z := .ro [.int c.1, .int c.2, .int 1, .int 1]) (ea_cons (es_var (x := .own ((rowW (.pic c)).map .str)) rfl rfl) ea_nil) ⟨"show", c, rfl, hr, rfl⟩)) (lstP_stable rfl)))))
  | plan t =>
    exact rs_ifNo (et_to (by show decide (("do" : Str) ∈ BAREL) = false; decide) (et_test (es_inG (l := BAREL) (x := "do") (es_im rfl) (T.tup 1 (x := "BARE") rfl) (by decide +kernel) (by decide +kernel)))) (rs_ifNo (et_to (by show decide (("do" : Str) ∈ OFCL) = false; decide) (et_test (es_inG (l := OFCL) (x := "do") (es_im rfl) (T.tup 2 (x := "OF_CELLS") rfl) (by decide +kernel) (by decide +kernel)))) (rs_ifNo (et_to (by show decide (("do" : Str) = "turn") = false; decide) (et_test (es_isT (x := "do") (es_im rfl) (by decide +kernel) (by decide +kernel)))) (rs_ifNo (et_to (by show decide (("do" : Str) = "show") = false; decide) (et_test (es_isT (x := "do") (es_im rfl) (by decide +kernel) (by decide +kernel)))) (rs_ifRp (et_to (by show decide (("do" : Str) ∈ (["do", "why", "same"] : List Str)) = true; decide) (et_test (es_inT (l := ["do", "why", "same"]) (x := "do") (es_im rfl) es_strs3 (by decide +kernel) (by decide +kernel))))
      (rs_retPair (es_im rfl) (evp_callP (ea_cons (es_var (x := .own ((rowW (.plan t)).map .str)) rfl rfl) ea_nil) (.inl ⟨t, rfl, hr, rfl⟩)) (lstP_stable rfl))))))
  | why c =>
    exact rs_ifNo (et_to (by show decide (("why" : Str) ∈ BAREL) = false; decide) (et_test (es_inG (l := BAREL) (x := "why") (es_im rfl) (T.tup 1 (x := "BARE") rfl) (by decide +kernel) (by decide +kernel)))) (rs_ifNo (et_to (by show decide (("why" : Str) ∈ OFCL) = false; decide) (et_test (es_inG (l := OFCL) (x := "why") (es_im rfl) (T.tup 2 (x := "OF_CELLS") rfl) (by decide +kernel) (by decide +kernel)))) (rs_ifNo (et_to (by show decide (("why" : Str) = "turn") = false; decide) (et_test (es_isT (x := "why") (es_im rfl) (by decide +kernel) (by decide +kernel)))) (rs_ifNo (et_to (by show decide (("why" : Str) = "show") = false; decide) (et_test (es_isT (x := "why") (es_im rfl) (by decide +kernel) (by decide +kernel)))) (rs_ifRp (et_to (by show decide (("why" : Str) ∈ (["do", "why", "same"] : List Str)) = true; decide) (et_test (es_inT (l := ["do", "why", "same"]) (x := "why") (es_im rfl) es_strs3 (by decide +kernel) (by decide +kernel))))
      (rs_retPair (es_im rfl) (evp_callP (ea_cons (es_var (x := .own ((rowW (.why c)).map .str)) rfl rfl) ea_nil) (.inr ⟨c, rfl, hr, rfl⟩)) (lstP_stable rfl))))))
theorem O_read_row (T : Tx K mg) (n : Nat) : Ok P w K mg base CX0 (2 * n + 9) d_read_row ["row"] (spP (R_read_row K n)) := by
  obtain ⟨fd, F⟩ := T.fn 61 d_read_row rfl
  exact ok_dataP (t := t_read_row K P w n) F sc_read_row (fun _ _ _ _ _ _ us hl => match us, hl with | [_], _ => rfl) (len_read_row n) (by decide) (fun cdv A outer s H E hr => pss_cons (ps_set (i := 1) sc_read_row.nd rfl (by first | exact Or.inl rfl | exact Or.inr rfl) (r_split (pv 0) (pe_str))) (pss_cons (ps_set (i := 2) sc_read_row.nd rfl (by first | exact Or.inl rfl | exact Or.inr rfl) (pe_ix ix_seq (pv 1) (pe_int) (fun _ _ => rfl))) (pss_cons (ps_if (pt_cmpR (o_in (units65 hr)) (pv 2) (pe_glob rfl (T.glo 196 rfl) rfl) rfl) (pss_one (ps_ret (pe_tup (pa_cons (pv 2) (pa_cons (pe_own (O_ended T) (hr.mono (by first | decide | omega)) rfl (T.glo 34 rfl) pass0 (pa_cons (pv 1) (pa_cons (pe_int) (pa_cons (pe_lst (pa_nil)) (pa_nil))))) (pa_nil)))))) (pss_nil)) (pss_cons (ps_if (pt_cmpR (o_in (units65 hr)) (pv 2) (pe_glob rfl (T.glo 197 rfl) rfl) rfl) (pss_cons (ps_set (i := 3) sc_read_row.nd rfl (by first | exact Or.inl rfl | exact Or.inr rfl) (pe_own (O_cell_at T) (hr.mono (by first | decide | omega)) rfl (T.glo 33 rfl) pass0 (pa_cons (pv 1) (pa_cons (pe_int) (pa_nil))))) (pss_one (ps_ret (pe_tup (pa_cons (pv 2) (pa_cons (pe_own (O_ended T) (hr.mono (by first | decide | omega)) rfl (T.glo 34 rfl) pass0 (pa_cons (pv 1) (pa_cons (pe_int) (pa_cons (pe_lst (pa_cons (pv 3) (pa_nil))) (pa_nil))))) (pa_nil))))))) (pss_nil)) (pss_cons (ps_if (pt_cmpR (op_eqD hr.units) (pv 2) (pe_str) (nomark _)) (pss_cons (ps_set (i := 4) sc_read_row.nd rfl (by first | exact Or.inl rfl | exact Or.inr rfl) (pe_own (O_number_at T) (hr.mono (by first | decide | omega)) rfl (T.glo 32 rfl) pass0 (pa_cons (pv 1) (pa_cons (pe_int) (pa_cons (pe_int) (pa_cons (pe_op op_sub (pe_gint rfl (T.int 80 rfl)) (pe_int)) (pa_nil))))))) (pss_one (ps_ret (pe_tup (pa_cons (pv 2) (pa_cons (pe_own (O_ended T) (hr.mono (by first | decide | omega)) rfl (T.glo 34 rfl) pass0 (pa_cons (pv 1) (pa_cons (pe_int) (pa_cons (pe_lst (pa_cons (pv 4) (pa_nil))) (pa_nil))))) (pa_nil))))))) (pss_nil)) (pss_cons (ps_if (pt_cmpR (op_eqD hr.units) (pv 2) (pe_str) (nomark _)) (pss_one (ps_ret (pe_tup (pa_cons (pv 2) (pa_cons (pe_own (O_shown T) (hr.mono (by first | decide | omega)) rfl (T.glo 35 rfl) pass0 (pa_cons (pv 1) (pa_nil))) (pa_nil)))))) (pss_nil)) (pss_cons (ps_if (pt_cmpR (o_in (units65 hr)) (pv 2) (pe_tup (pa_cons (pe_str) (pa_cons (pe_str) (pa_cons (pe_str) (pa_nil))))) rfl) (pss_one (ps_ret (pe_tup (pa_cons (pv 2) (pa_cons (pe_own (O_of_plans T n) (hr.mono (by first | decide | omega)) rfl (T.glo 36 rfl) pass0 (pa_cons (pv 1) (pa_nil))) (pa_nil)))))) (pss_nil)) (pss_one (ps_never))))))))) (run_read_row T)
end K91
/-! ==== K20 -/
set_option maxRecDepth 100000
set_option maxHeartbeats 4000000
namespace K91
open PySem PySem.Spec PyProof.Rows L2 SG DL
variable {P : Program} {w : World} {K : PySem.W.Frag} {mg : Str → Option Value} {base : Heap}
theorem sc_changed : FnScope ["shape", "word", "values"] ["shape", "word", "values"] (defScope s_changed) := ⟨rfl, rfl, rfl, by decide +kernel, rfl, by decide +kernel, by decide +kernel⟩
def t_changed (K : PySem.W.Frag) (P : Program) (w : World) (n : Nat) : TS := tSeq (tIfS (tTest (tOp (rEqD K) (tVar 1) (tC (.str "put")))) (tRet (tCall (spD R_either) [] E0 (tCons (tVar 0) (tCons (tTup (tCons (tTup (tCons (tOp (rIx K) (tVar 2) (tC (.int 0))) (tNil))) (tCons (tC (.bl false)) (tNil)))) (tNil))))) (tNext)) (tSeq (tIfS (tTest (tOp (rEqD K) (tVar 1) (tC (.str "take")))) (tRet (tCall (spD R_both) [] E0 (tCons (tVar 0) (tCons (tTup (tCons (tTup (tCons (tOp (rIx K) (tVar 2) (tC (.int 0))) (tNil))) (tCons (tC (.bl true)) (tNil)))) (tNil))))) (tNext)) (tSeq (tIfS (tTest (tOp (rEqD K) (tVar 1) (tC (.str "move")))) (tRet (tCall (spD R_moved) [] E0 (tCons (tVar 0) (tCons (tOp (rIx K) (tVar 2) (tC (.int 0))) (tNil))))) (tNext)) (tSeq (tIfS (tTest (tOp (rEqD K) (tVar 1) (tC (.str "turn")))) (tRet (tCall (spD R_turned) [] E0 (tCons (tVar 0) (tCons (tOp (rIx K) (tVar 2) (tC (.int 0))) (tNil))))) (tNext)) (tSeq (tIfS (tTest (tOp (rEqD K) (tVar 1) (tC (.str "out")))) (tRet (tCall (spD R_outside) [] E0 (tCons (tVar 0) (tNil)))) (tNext)) (tSeq (tIfS (tTest (tOp (rEqD K) (tVar 1) (tC (.str "do")))) (tRet (tMP "done" (tbD K (R_done K n)) (tOp (rIx K) (tVar 2) (tC (.int 0))) (tCons (tVar 0) (tNil)))) (tNext)) (tNever))))))
/-- what a row makes of a shape -/
def chF (s : Shp) : RowK → Shp
  | .cell x c => if x = "put" then eitherF s ([c], false) else if x = "take" then bothF s ([c], true) else mvF s c
  | .turn t => turnF s t
  | .plan t => doF t s
  | _ => outF s
def chOk (n : Nat) (s : Shp) : RowK → Prop
  | .cell x _ => x = "put" ∨ x = "take" ∨ x = "move"
  | .turn t => 0 ≤ t ∧ t < 8
  | .bare x => x = "out"
  | .plan t => dep t ≤ n ∧ doOk t s
  | _ => False
theorem run_changed_put {n : Nat} (s : Shp) (hl : s.1.length ≤ 200) (c : Cell) : RunS (t_changed K P w n) [some (.im (shD s)), some (.im (.str "put")), some (.ro [cD c])] (.rt (.im (shD (eitherF s ([c], false))))) := by
  exact rs_ifRt (et_to (by show decide (("put" : Str) = "put") = true; decide) (et_test (es_isT (x := "put") (es_im rfl) (by decide +kernel) (by decide +kernel)))) (rs_ret (es_call (z := .im (shD (eitherF s ([c], false)))) (ea_cons (es_im rfl) (ea_cons (es_tup (ds := [csD [c], .bool false]) (ea_cons (es_tup (ds := [cD c]) (ea_cons (es_op (z := .im (cD c)) (es_var (x := .ro [cD c]) rfl rfl) es_int (s_ixL rfl rfl)) ea_nil)) (ea_cons es_bl ea_nil))) ea_nil)) ⟨s, ([c], false), rfl, by show _ + 1 ≤ _; omega, rfl⟩))
theorem run_changed_take {n : Nat} (s : Shp) (hl : s.1.length ≤ 200) (c : Cell) : RunS (t_changed K P w n) [some (.im (shD s)), some (.im (.str "take")), some (.ro [cD c])] (.rt (.im (shD (bothF s ([c], true))))) := by
  exact rs_ifNo (et_to (by show decide (("take" : Str) = "put") = false; decide) (et_test (es_isT (x := "take") (es_im rfl) (by decide +kernel) (by decide +kernel)))) (rs_ifRt (et_to (by show decide (("take" : Str) = "take") = true; decide) (et_test (es_isT (x := "take") (es_im rfl) (by decide +kernel) (by decide +kernel)))) (rs_ret (es_call (z := .im (shD (bothF s ([c], true)))) (ea_cons (es_im rfl) (ea_cons (es_tup (ds := [csD [c], .bool true]) (ea_cons (es_tup (ds := [cD c]) (ea_cons (es_op (z := .im (cD c)) (es_var (x := .ro [cD c]) rfl rfl) es_int (s_ixL rfl rfl)) ea_nil)) (ea_cons es_bl ea_nil))) ea_nil)) ⟨s, ([c], true), rfl, by show _ + 1 ≤ _; omega, rfl⟩)))
theorem run_changed_move {n : Nat} (s : Shp) (hl : s.1.length ≤ 200) (c : Cell) : RunS (t_changed K P w n) [some (.im (shD s)), some (.im (.str "move")), some (.ro [cD c])] (.rt (.im (shD (mvF s c)))) := by
  exact rs_ifNo (et_to (by show decide (("move" : Str) = "put") = false; decide) (et_test (es_isT (x := "move") (es_im rfl) (by decide +kernel) (by decide +kernel)))) (rs_ifNo (et_to (by show decide (("move" : Str) = "take") = false; decide) (et_test (es_isT (x := "move") (es_im rfl) (by decide +kernel) (by decide +kernel)))) (rs_ifRt (et_to (by show decide (("move" : Str) = "move") = true; decide) (et_test (es_isT (x := "move") (es_im rfl) (by decide +kernel) (by decide +kernel)))) (rs_ret (es_call (z := .im (shD (mvF s c))) (ea_cons (es_im rfl) (ea_cons (es_op (z := .im (cD c)) (es_var (x := .ro [cD c]) rfl rfl) es_int (s_ixL rfl rfl)) ea_nil)) ⟨s, c, rfl, by omega, rfl⟩))))
theorem run_changed_turn {n : Nat} (s : Shp) (hl : s.1.length ≤ 200) (t : Int) (h0 : 0 ≤ t) (h1 : t < 8) : RunS (t_changed K P w n) [some (.im (shD s)), some (.im (.str "turn")), some (.ro [.int t])] (.rt (.im (shD (turnF s t)))) := by
  exact rs_ifNo (et_to (by show decide (("turn" : Str) = "put") = false; decide) (et_test (es_isT (x := "turn") (es_im rfl) (by decide +kernel) (by decide +kernel)))) (rs_ifNo (et_to (by show decide (("turn" : Str) = "take") = false; decide) (et_test (es_isT (x := "turn") (es_im rfl) (by decide +kernel) (by decide +kernel)))) (rs_ifNo (et_to (by show decide (("turn" : Str) = "move") = false; decide) (et_test (es_isT (x := "turn") (es_im rfl) (by decide +kernel) (by decide +kernel)))) (rs_ifRt (et_to (by show decide (("turn" : Str) = "turn") = true; decide) (et_test (es_isT (x := "turn") (es_im rfl) (by decide +kernel) (by decide +kernel)))) (rs_ret (es_call (z := .im (shD (turnF s t))) (ea_cons (es_im rfl) (ea_cons (es_op (z := .im (.int t)) (es_var (x := .ro [.int t]) rfl rfl) es_int (s_ixL rfl rfl)) ea_nil)) ⟨s, t, rfl, h0, h1, by omega, rfl⟩)))))
theorem run_changed_out {n : Nat} (s : Shp) : RunS (t_changed K P w n) [some (.im (shD s)), some (.im (.str "out")), some (.ro [])] (.rt (.im (shD (outF s)))) := by
  exact rs_ifNo (et_to (by show decide (("out" : Str) = "put") = false; decide) (et_test (es_isT (x := "out") (es_im rfl) (by decide +kernel) (by decide +kernel)))) (rs_ifNo (et_to (by show decide (("out" : Str) = "take") = false; decide) (et_test (es_isT (x := "out") (es_im rfl) (by decide +kernel) (by decide +kernel)))) (rs_ifNo (et_to (by show decide (("out" : Str) = "move") = false; decide) (et_test (es_isT (x := "out") (es_im rfl) (by decide +kernel) (by decide +kernel)))) (rs_ifNo (et_to (by show decide (("out" : Str) = "turn") = false; decide) (et_test (es_isT (x := "out") (es_im rfl) (by decide +kernel) (by decide +kernel)))) (rs_ifRt (et_to (by show decide (("out" : Str) = "out") = true; decide) (et_test (es_isT (x := "out") (es_im rfl) (by decide +kernel) (by decide +kernel)))) (rs_ret (es_call (z := .im (shD (outF s))) (ea_cons (es_im rfl) ea_nil) ⟨s, rfl, rfl⟩))))))
def spCh (K : PySem.W.Frag) (n : Nat) : Sp := fun vs H Q _ => ∃ (v0 lv : V) (s : Shp) (r : RowK), vs = [v0, .str (rowTag r), lv] ∧ Im H v0 (shD s) ∧ lstP (rowV K r) lv H ∧ s.1.length ≤ 200 ∧ chOk n s r ∧ ∀ v H', Gr H H' → Im H' v (shD (chF s r)) → Q v H'
theorem len_Ch (n : Nat) : ∀ vs H Q E, spCh K n vs H Q E → vs.length = 3 := by
  rintro vs H Q E ⟨_, _, _, _, rfl, _⟩
  rfl
theorem ims_paired {H : Hp} : ∀ {us : List V} {ds : List PyData}, Paired (SH H H) us (ds.map .im) → Ims H us ds
  | _, [], .nil => .nil
  | _, _ :: _, .cons a r => .cons a (ims_paired r)
theorem ro_of {H : Hp} {lv : V} {ds : List PyData} (h : lstP (ds.map .im) lv H) : SH H H lv (.ro ds) := by
  obtain ⟨l, us, e, el, r⟩ := h
  exact ⟨l, us, e, el, ims_paired r⟩
theorem run_changed (T : Tx K mg) {n : Nat} (vs : List V) (H : Hp) (Q : VK) (E : XK) (h : spCh K n vs H Q E) : t_changed K P w n { nx := fun _ H' => Q .non H', rt := Q } (L2.start ["shape", "word", "values"] vs) H := by
  obtain ⟨v0, lv, s, r, rfl, iv, hv, hl, ho, q⟩ := h
  have go : ∀ (tag : Str) (ds : List PyData) (s' : Shp), SH H H lv (.ro ds) → RunS (t_changed K P w n) [some (.im (shD s)), some (.im (.str tag)), some (.ro ds)] (.rt (.im (shD s'))) → (∀ v H', Gr H H' → Im H' v (shD s') → Q v H') → t_changed K P w n { nx := fun _ H' => Q .non H', rt := Q } (L2.start ["shape", "word", "values"] [v0, .str tag, lv]) H := fun tag ds s' hro run q' =>
    run H _ H _ (start_St (N := ["shape", "word", "values"]) (xs := [.im (shD s), .im (.str tag), .ro ds]) (.cons iv (.cons (.str _) (.cons hro .nil))) (by exact Nat.le_refl 3)) fun v H' gr i => q' v H' gr i
  cases r with
  | bare x =>
    have ho : x = "out" := ho
    subst ho
    exact go "out" [] _ (ro_of (ds := []) hv) (run_changed_out s) q
  | cell x c =>
    rcases ho with rfl | rfl | rfl
    · exact go "put" [cD c] _ (ro_of (ds := [cD c]) hv) (run_changed_put s hl c) (by
        have e : chF s (.cell "put" c) = eitherF s ([c], false) := by show (if ("put" : Str) = "put" then eitherF s ([c], false) else if ("put" : Str) = "take" then bothF s ([c], true) else mvF s c) = _; rw [if_pos rfl]
        rw [e] at q; exact q)
    · exact go "take" [cD c] _ (ro_of (ds := [cD c]) hv) (run_changed_take s hl c) (by
        have e : chF s (.cell "take" c) = bothF s ([c], true) := by show (if ("take" : Str) = "put" then eitherF s ([c], false) else if ("take" : Str) = "take" then bothF s ([c], true) else mvF s c) = _; rw [if_neg (by decide), if_pos rfl]
        rw [e] at q; exact q)
    · exact go "move" [cD c] _ (ro_of (ds := [cD c]) hv) (run_changed_move s hl c) (by
        have e : chF s (.cell "move" c) = mvF s c := by show (if ("move" : Str) = "put" then eitherF s ([c], false) else if ("move" : Str) = "take" then bothF s ([c], true) else mvF s c) = _; rw [if_neg (by decide), if_neg (by decide)]
        rw [e] at q; exact q)
  | turn t => exact go "turn" [.int t] _ (ro_of (ds := [.int t]) hv) (run_changed_turn s hl t ho.1 ho.2) q
  | pic c => exact ho.elim
  | why c => exact ho.elim
  | plan t =>
    obtain ⟨l, us, rfl, el, pr⟩ := hv
    obtain ⟨pv, rfl, pl⟩ : ∃ pv, us = [pv] ∧ PlanAt K t pv H := by
      cases pr with
      | cons a r => cases r; exact ⟨_, rfl, a⟩
    have no : ∀ y : Str, ("do" : Str) ≠ y → PyData.eqv (.str "do") (.str y) = false := fun y hy => by rw [str_eqv]; exact decide_eq_false hy
    refine ⟨_, rfl, .str "do", .str "put", .str _, .str _, str_shaped (by decide +kernel), str_shaped (by decide +kernel), false, congrArg V.bl (no "put" (by decide)), iteF ?_⟩
    refine ⟨_, rfl, .str "do", .str "take", .str _, .str _, str_shaped (by decide +kernel), str_shaped (by decide +kernel), false, congrArg V.bl (no "take" (by decide)), iteF ?_⟩
    refine ⟨_, rfl, .str "do", .str "move", .str _, .str _, str_shaped (by decide +kernel), str_shaped (by decide +kernel), false, congrArg V.bl (no "move" (by decide)), iteF ?_⟩
    refine ⟨_, rfl, .str "do", .str "turn", .str _, .str _, str_shaped (by decide +kernel), str_shaped (by decide +kernel), false, congrArg V.bl (no "turn" (by decide)), iteF ?_⟩
    refine ⟨_, rfl, .str "do", .str "out", .str _, .str _, str_shaped (by decide +kernel), str_shaped (by decide +kernel), false, congrArg V.bl (no "out" (by decide)), iteF ?_⟩
    refine ⟨_, rfl, .str "do", .str "do", .str _, .str _, str_shaped (by decide +kernel), str_shaped (by decide +kernel), true, congrArg V.bl ((str_eqv _ _).trans (decide_eq_true rfl)), iteT ?_⟩
    obtain ⟨a, dx, fs, e, ea, en⟩ := PlanAt.cls pl
    refine ⟨_, rfl, .inl ⟨l, [pv], 0, pv, rfl, rfl, SqL.of el, atI_nat (j := 0) rfl, a, _, dx, fs, _, e, ea, ⟨t, rfl, rfl⟩, lk_none (by rw [en]; exact no_done t), _, rfl, ?_⟩⟩
    exact ⟨[plV K t, .im (shD s)], .im (shD (doF t s)), .cons pl (.cons iv .nil), ⟨t, s, rfl, ho.1, ho.2, rfl⟩, fun v H' gr i => q v H' gr i⟩
theorem O_changed (T : Tx K mg) (n : Nat) : Ok P w K mg base CX0 (2 * n + 12) d_changed ["shape", "word", "values"] (spCh K n) := by
  obtain ⟨fd, F⟩ := T.fn 64 d_changed rfl
  exact ok_v (t := t_changed K P w n) F sc_changed (fun _ _ _ _ _ _ us hl => match us, hl with | [_, _, _], _ => rfl) (len_Ch n) (fun cdv A outer s H E hr => pss_cons (ps_if (pt_cmpR (op_eqD hr.units) (pv 1) (pe_str) (nomark _)) (pss_one (ps_ret (pe_own (O_either T) (hr.mono (by first | decide | omega)) rfl (T.glo 7 rfl) pass0 (pa_cons (pv 0) (pa_cons (pe_tup (pa_cons (pe_tup (pa_cons (pe_ix ix_seq (pv 2) (pe_int) (fun _ _ => rfl)) (pa_nil))) (pa_cons (pe_bl) (pa_nil)))) (pa_nil)))))) (pss_nil)) (pss_cons (ps_if (pt_cmpR (op_eqD hr.units) (pv 1) (pe_str) (nomark _)) (pss_one (ps_ret (pe_own (O_both T) (hr.mono (by first | decide | omega)) rfl (T.glo 6 rfl) pass0 (pa_cons (pv 0) (pa_cons (pe_tup (pa_cons (pe_tup (pa_cons (pe_ix ix_seq (pv 2) (pe_int) (fun _ _ => rfl)) (pa_nil))) (pa_cons (pe_bl) (pa_nil)))) (pa_nil)))))) (pss_nil)) (pss_cons (ps_if (pt_cmpR (op_eqD hr.units) (pv 1) (pe_str) (nomark _)) (pss_one (ps_ret (pe_own (O_moved T) (hr.mono (by first | decide | omega)) rfl (T.glo 10 rfl) pass0 (pa_cons (pv 0) (pa_cons (pe_ix ix_seq (pv 2) (pe_int) (fun _ _ => rfl)) (pa_nil)))))) (pss_nil)) (pss_cons (ps_if (pt_cmpR (op_eqD hr.units) (pv 1) (pe_str) (nomark _)) (pss_one (ps_ret (pe_own (O_turned T) (hr.mono (by first | decide | omega)) rfl (T.glo 14 rfl) pass0 (pa_cons (pv 0) (pa_cons (pe_ix ix_seq (pv 2) (pe_int) (fun _ _ => rfl)) (pa_nil)))))) (pss_nil)) (pss_cons (ps_if (pt_cmpR (op_eqD hr.units) (pv 1) (pe_str) (nomark _)) (pss_one (ps_ret (pe_own (O_outside T) (hr.mono (by first | decide | omega)) rfl (T.glo 5 rfl) pass0 (pa_cons (pv 0) (pa_nil))))) (pss_nil)) (pss_cons (ps_if (pt_cmpR (op_eqD hr.units) (pv 1) (pe_str) (nomark _)) (pss_one (ps_ret (pe_mp (pe_ix ix_seq (pv 2) (pe_int) (fun _ _ => rfl)) (mok_done T (O_done T n) (hr.mono (by omega))) (pa_cons (pv 0) (pa_nil))))) (pss_nil)) (pss_never))))))) (run_changed T)
end K91
/-! ==== K21 -/
set_option maxRecDepth 100000
set_option maxHeartbeats 4000000
namespace K91
open PySem PySem.Spec PyProof.Rows L2 SG DL
variable {P : Program} {w : World} {K : PySem.W.Frag} {mg : Str → Option Value} {base : Heap}
abbrev midA (K : PySem.W.Frag) : Addr := He.ga K "MIDDLE_least"
/-- the written cell of noughts -/
def midV (K : PySem.W.Frag) : SV := .ob (fun v _ => v = .ref (midA K)) fun _ _ _ _ h => h
/-- a piece of it alone -/
def pcV (K : PySem.W.Frag) : SV := .ob (fun v H => ∃ a, v = .ref a ∧ H a = some (.tup [.ref (midA K)])) fun _ _ _ k ⟨a, e, h⟩ => ⟨a, e, k _ _ h rfl⟩
theorem mid_at (T : Tx K mg) (H : Hp) : SqT K H (midA K) [.int 0, .int 0] := T.tup 4 (x := "MIDDLE_least") rfl H
theorem es_mid (T : Tx K mg) {ρ : Rho} {te : TE} {i : Int} (h : EvS te ρ (midV K)) (hi : i = 0 ∨ i = 1) : EvS (tOp (rIx K) te (tC (.int i))) ρ (.im (.int 0)) := fun B σ H Q S q => h B σ H _ S fun v H1 g r => by
  have e : v = .ref (midA K) := r
  subst e
  refine .inr (.inl ⟨midA K, [.int 0, .int 0], i, .int 0, rfl, rfl, mid_at T H1, ?_, q _ H1 g (.int 0)⟩)
  rcases hi with rfl | rfl <;> rfl
theorem loose_lsty : ∀ {x : SV}, SV.loose x = true → x.lsty = false
  | .im _, _ => rfl
  | .ob _ _, _ => rfl
  | .own _, h => nomatch h
  | .ro _, h => nomatch h
  | .dic _, h => nomatch h
  | .rf _, h => nomatch h
/-- [elt for x in (a tuple of one value)] -/
theorem es_mapO {ρ : Rho} {ta te : TE} {j : Nat} {x : SV} {Po : V → Hp → Prop} {m} {d : PyData} (h : EvS ta ρ (.ob Po m)) (hp : ∀ v H, Po v H → ∃ a u, v = .ref a ∧ H a = some (.tup [u]) ∧ ∀ H', Gr H H' → SH H' H' u x) (hx : SV.loose x = true)
    (el : EvS te ((ρ.set j none).set j (some x)) (.im d)) : EvS (tLc (iTup K ta) (gName j) tYes te [j]) ρ (.own [d]) := fun B σ H Q S q => h B σ H _ S fun v H1 g1 r => by
  obtain ⟨a, u, rfl, ea, hu⟩ := hp v H1 r
  have S1 := S.grow g1
  refine ⟨a, rfl, ⟨_, SqT.of ea⟩, fun D hD => ?_⟩
  have gD := Gr.new (.lst []) hD
  have neD : ∀ {b : Addr} {o : HO}, H1 b = some o → b ≠ D := fun e z => by rw [z, hD] at e; cases e
  refine ⟨fun i k H2 => (i = 0 ∧ k = 1 ∧ Gr H1 H2 ∧ H2 D = some (.lst [])) ∨ (i = 1 ∧ k = 0 ∧ Gr H1 H2 ∧ ∃ y, H2 D = some (.lst [y]) ∧ Im H2 y d), ⟨1, .inl ⟨rfl, rfl, gD, upd_same⟩⟩, ?_⟩
  rintro i k H2 (⟨rfl, rfl, g2, e2⟩ | ⟨rfl, rfl, g2, y, e2, iy⟩)
  · refine .inr ⟨⟨_, _, SqT.of (g2 _ _ ea), rfl⟩, fun H3 => Gr H1 H3 ∧ ∃ y, H3 D = some (.lst [y]) ∧ Im H3 y d, fun H3 h3 => ⟨0, Nat.zero_lt_one, .inr ⟨rfl, rfl, h3.1, h3.2⟩⟩, fun z H3 yl => ?_⟩
    obtain ⟨rfl, yl⟩ := yl
    have ez : z = u := by
      have := yl [u] (SqT.of (g2 _ _ ea))
      exact (Option.some.inj this).symm
    subst ez
    have S2 : St B (wipe σ [j]) H3 (ρ.set j none) := wipe_St (vs := [j]) (S1.grow g2)
    have hz : SH B H3 z x := loose_any hx (.refl H3) (hu H3 g2)
    have S3 := S2.set j hz fun l => absurd l (by rw [loose_lsty hx]; exact Bool.false_ne_true)
    refine ⟨?_, ?_⟩
    · show (((wipe σ [j]).set j (some z)).set j none) = (wipe σ []).set j none
      show ((((σ.set j none)).set j (some z)).set j none) = σ.set j none
      rw [List.set_set, List.set_set]
    · show (if true = true then te _ _ _ else (fun H3 => Gr H1 H3 ∧ ∃ y, H3 D = some (.lst [y]) ∧ Im H3 y d) H3)
      refine iteT (el B _ H3 _ S3 fun y H4 g4 iy => ⟨[], g4 _ _ e2, by rw [sizeLine_eq]; decide, fun b o e => ?_, y, upd_same, Im.kp (.upd (g4 _ _ e2) rfl) iy⟩)
      rw [upd_ne (neD e)]
      exact g4 _ _ (g2 _ _ e)
  · exact .inl ⟨⟨_, SqT.of (g2 _ _ ea), Nat.le_refl 1⟩, q _ H2 (g1.trans g2) ⟨D, [y], rfl, g1.back hD, e2, .cons iy .nil⟩⟩

/-! ### moved_cell -/
def R_moved_cell_m (K : PySem.W.Frag) : List SV → SV → Prop := fun xs z => ∃ (d : Cell), xs = [midV K, .im (cD d)] ∧ z = .im (cD d)
theorem len_moved_cell_m : ∀ xs z, R_moved_cell_m K xs z → xs.length = 2 := by
  rintro xs z ⟨_, rfl, _⟩
  rfl
def t_moved_cell_m (K : PySem.W.Frag) (P : Program) (w : World) : TS := tRet (tTup (tCons (tOp (xAdd K) (tOp (rIx K) (tVar 0) (tC (.int 0))) (tOp (rIx K) (tVar 1) (tC (.int 0)))) (tCons (tOp (xAdd K) (tOp (rIx K) (tVar 0) (tC (.int 1))) (tOp (rIx K) (tVar 1) (tC (.int 1)))) (tNil))))
theorem run_moved_cell_m (T : Tx K mg) : ∀ xs z, R_moved_cell_m K xs z → RunS (t_moved_cell_m K P w) (xs.map some ++ List.replicate (2 - xs.length) none) (.rt z) := by
  rintro xs z ⟨d, rfl, rfl⟩
  refine rs_to ?_ (rs_ret (es_tup (ds := [.int (0 + d.1), .int (0 + d.2)]) (ea_cons (es_op (es_mid T (es_var (x := midV K) rfl rfl) (.inl rfl)) (es_op (es_im rfl) es_int (s_ixT rfl)) s_add) (ea_cons (es_op (es_mid T (es_var (x := midV K) rfl rfl) (.inr rfl)) (es_op (es_im rfl) es_int (s_ixT rfl)) s_add) ea_nil))))
  rw [Int.zero_add, Int.zero_add]
  rfl
theorem O_moved_cell_m (T : Tx K mg) : Ok P w K mg base CX0 1 d_moved_cell ["cell", "step"] (spD (R_moved_cell_m K)) := by
  obtain ⟨fd, F⟩ := T.fn 9 d_moved_cell rfl
  exact ok_data (t := t_moved_cell_m K P w) F sc_moved_cell (fun _ _ _ _ _ _ us hl => match us, hl with | [_, _], _ => rfl) len_moved_cell_m (by decide) (fun cdv A outer s H E hr => pss_one (ps_ret (pe_tup (pa_cons (pe_op o_add (pe_ix ix_seq (pv 0) (pe_int) (fun _ _ => rfl)) (pe_ix ix_seq (pv 1) (pe_int) (fun _ _ => rfl))) (pa_cons (pe_op o_add (pe_ix ix_seq (pv 0) (pe_int) (fun _ _ => rfl)) (pe_ix ix_seq (pv 1) (pe_int) (fun _ _ => rfl))) (pa_nil)))))) (fun xs z h => .rt (run_moved_cell_m T xs z h))

/-! ### lies_on -/
def R_lies_on_m (K : PySem.W.Frag) : List SV → SV → Prop := fun xs z => ∃ (c : Cell), xs = [pcV K, .im (cD c)] ∧ z = .own [cD c]
theorem len_lies_on_m : ∀ xs z, R_lies_on_m K xs z → xs.length = 2 := by
  rintro xs z ⟨_, rfl, _⟩
  rfl
def t_lies_on_m (K : PySem.W.Frag) (P : Program) (w : World) : TS := tRet (tLc (iTup K (tVar 0)) (gName 2) (tYes) (tCall (spD (R_moved_cell_m K)) [] E0 (tCons (tVar 2) (tCons (tVar 1) (tNil)))) [2])
theorem run_lies_on_m (T : Tx K mg) : ∀ xs z, R_lies_on_m K xs z → RunS (t_lies_on_m K P w) (xs.map some ++ List.replicate (3 - xs.length) none) (.rt z) := by
  rintro xs z ⟨c, rfl, rfl⟩
  exact rs_ret (es_mapO (x := midV K) (es_var (x := pcV K) rfl rfl) (fun v H h => by
    obtain ⟨a, e, h⟩ := h
    exact ⟨a, _, e, h, fun _ _ => rfl⟩) rfl (es_call (z := .im (cD c)) (ea_cons (es_var (x := midV K) rfl rfl) (ea_cons (es_im rfl) ea_nil)) ⟨c, rfl, rfl⟩))
theorem O_lies_on_m (T : Tx K mg) : Ok P w K mg base CX0 2 d_lies_on ["piece", "cell"] (spD (R_lies_on_m K)) := by
  obtain ⟨fd, F⟩ := T.fn 17 d_lies_on rfl
  exact ok_data (t := t_lies_on_m K P w) F sc_lies_on (fun _ _ _ _ _ _ us hl => match us, hl with | [_, _], _ => rfl) len_lies_on_m (by decide) (fun cdv A outer s H E hr => pss_one (ps_ret (pe_lc (own := [("step", 2)]) (g := gName 2) (tt := tYes) rfl sc_lies_on.nd (pi_tup (pv 0)) (blkOk_by (N := ["piece", "cell", "step"]) (sc := defScope s_lies_on) (by decide +kernel)) (fun _ _ _ _ _ => pg_name (i := 2) sc_lies_on.nd rfl (by first | exact Or.inl rfl | exact Or.inr rfl)) (fun _ _ _ _ _ => pts_nil) (fun _ _ _ _ _ => pe_own (O_moved_cell_m T) (hr.mono (by first | decide | omega)) rfl (T.glo 8 rfl) pass0 (pa_cons (pv 2) (pa_cons (pv 1) (pa_nil))))))) (fun xs z h => .rt (run_lies_on_m T xs z h))

/-! ### whole_at -/
def R_whole_at_m (K : PySem.W.Frag) : List SV → SV → Prop := fun xs z => ∃ (s : Shp) (c : Cell), xs = [.im (shD s), pcV K, .im (cD c)] ∧ z = .im (.bool (hasB s c))
theorem len_whole_at_m : ∀ xs z, R_whole_at_m K xs z → xs.length = 3 := by
  rintro xs z ⟨_, _, rfl, _⟩
  rfl
def t_whole_at_m (K : PySem.W.Frag) (P : Program) (w : World) : TS := tRet (tCB (rAll K) (tCons (tLc (iList K (tCall (spD (R_lies_on_m K)) [] E0 (tCons (tVar 1) (tCons (tVar 2) (tNil))))) (gName 3) (tYes) (tCall (spD R_has) [] E0 (tCons (tVar 0) (tCons (tVar 3) (tNil)))) [3]) (tNil)))
theorem run_whole_at_m (T : Tx K mg) : ∀ xs z, R_whole_at_m K xs z → RunS (t_whole_at_m K P w) (xs.map some ++ List.replicate (4 - xs.length) none) (.rt z) := by
  rintro xs z ⟨s, c, rfl, rfl⟩
  refine rs_to ?_ (rs_ret (es_cb (ea_cons (es_mapL (enc := cD) (l := [c]) (h := fun d => .bool (hasB s d)) (x := .own [cD c]) (es_call (ea_cons (es_var (x := pcV K) rfl rfl) (ea_cons (es_im rfl) ea_nil)) ⟨c, rfl, rfl⟩) rfl (fun d _ => ⟨_, .name 3 _, es_call (z := .im (.bool (hasB s d))) (ea_cons (es_im rfl) (ea_cons (es_im rfl) ea_nil)) ⟨s, d, rfl, rfl⟩⟩) (by show 1 < 100000; decide)) ea_nil) (c_all (bs := [hasB s c]) rfl)))
  show SV.im (.bool (hasB s c && true)) = _
  rw [Bool.and_true]
theorem O_whole_at_m (T : Tx K mg) : Ok P w K mg base CX0 3 d_whole_at ["shape", "piece", "cell"] (spD (R_whole_at_m K)) := by
  obtain ⟨fd, F⟩ := T.fn 18 d_whole_at rfl
  exact ok_data (t := t_whole_at_m K P w) F sc_whole_at (fun _ _ _ _ _ _ us hl => match us, hl with | [_, _, _], _ => rfl) len_whole_at_m (by decide) (fun cdv A outer s H E hr => pss_one (ps_ret (pe_callB (cr_all rfl) rfl (T.free 69 rfl) boot_all (pa_cons (pe_lc (own := [("there", 3)]) (g := gName 3) (tt := tYes) rfl sc_whole_at.nd (pi_list (pe_own (O_lies_on_m T) (hr.mono (by first | decide | omega)) rfl (T.glo 16 rfl) pass0 (pa_cons (pv 1) (pa_cons (pv 2) (pa_nil))))) (blkOk_by (N := ["shape", "piece", "cell", "there"]) (sc := defScope s_whole_at) (by decide +kernel)) (fun _ _ _ _ _ => pg_name (i := 3) sc_whole_at.nd rfl (by first | exact Or.inl rfl | exact Or.inr rfl)) (fun _ _ _ _ _ => pts_nil) (fun _ _ _ _ _ => pe_own (O_has T) (hr.mono (by first | decide | omega)) rfl (T.glo 3 rfl) pass0 (pa_cons (pv 0) (pa_cons (pv 3) (pa_nil))))) (pa_nil))))) (fun xs z h => .rt (run_whole_at_m T xs z h))

/-! ### clear_at -/
def R_clear_at_m (K : PySem.W.Frag) : List SV → SV → Prop := fun xs z => ∃ (s : Shp) (c : Cell), xs = [.im (shD s), pcV K, .im (cD c)] ∧ z = .im (.bool (!hasB s c))
theorem len_clear_at_m : ∀ xs z, R_clear_at_m K xs z → xs.length = 3 := by
  rintro xs z ⟨_, _, rfl, _⟩
  rfl
def t_clear_at_m (K : PySem.W.Frag) (P : Program) (w : World) : TS := tRet (tNotV (tCB (rAny K) (tCons (tLc (iList K (tCall (spD (R_lies_on_m K)) [] E0 (tCons (tVar 1) (tCons (tVar 2) (tNil))))) (gName 3) (tYes) (tCall (spD R_has) [] E0 (tCons (tVar 0) (tCons (tVar 3) (tNil)))) [3]) (tNil))))
theorem run_clear_at_m (T : Tx K mg) : ∀ xs z, R_clear_at_m K xs z → RunS (t_clear_at_m K P w) (xs.map some ++ List.replicate (4 - xs.length) none) (.rt z) := by
  rintro xs z ⟨s, c, rfl, rfl⟩
  refine rs_to ?_ (rs_ret (es_notV (es_cb (ea_cons (es_mapL (enc := cD) (l := [c]) (h := fun d => .bool (hasB s d)) (x := .own [cD c]) (es_call (ea_cons (es_var (x := pcV K) rfl rfl) (ea_cons (es_im rfl) ea_nil)) ⟨c, rfl, rfl⟩) rfl (fun d _ => ⟨_, .name 3 _, es_call (z := .im (.bool (hasB s d))) (ea_cons (es_im rfl) (ea_cons (es_im rfl) ea_nil)) ⟨s, d, rfl, rfl⟩⟩) (by show 1 < 100000; decide)) ea_nil) (c_any (bs := [hasB s c]) rfl))))
  show SV.im (.bool (!(hasB s c || false))) = _
  rw [Bool.or_false]
theorem O_clear_at_m (T : Tx K mg) : Ok P w K mg base CX0 3 d_clear_at ["shape", "piece", "cell"] (spD (R_clear_at_m K)) := by
  obtain ⟨fd, F⟩ := T.fn 19 d_clear_at rfl
  exact ok_data (t := t_clear_at_m K P w) F sc_clear_at (fun _ _ _ _ _ _ us hl => match us, hl with | [_, _, _], _ => rfl) len_clear_at_m (by decide) (fun cdv A outer s H E hr => pss_one (ps_ret (pe_not (pe_callB (cr_any rfl) rfl (T.free 70 rfl) boot_any (pa_cons (pe_lc (own := [("there", 3)]) (g := gName 3) (tt := tYes) rfl sc_clear_at.nd (pi_list (pe_own (O_lies_on_m T) (hr.mono (by first | decide | omega)) rfl (T.glo 16 rfl) pass0 (pa_cons (pv 1) (pa_cons (pv 2) (pa_nil))))) (blkOk_by (N := ["shape", "piece", "cell", "there"]) (sc := defScope s_clear_at) (by decide +kernel)) (fun _ _ _ _ _ => pg_name (i := 3) sc_clear_at.nd rfl (by first | exact Or.inl rfl | exact Or.inr rfl)) (fun _ _ _ _ _ => pts_nil) (fun _ _ _ _ _ => pe_own (O_has T) (hr.mono (by first | decide | omega)) rfl (T.glo 3 rfl) pass0 (pa_cons (pv 0) (pa_cons (pv 3) (pa_nil))))) (pa_nil)))))) (fun xs z h => .rt (run_clear_at_m T xs z h))
end K91
/-! ==== K22 -/
set_option maxRecDepth 100000
set_option maxHeartbeats 4000000
namespace K91
open PySem PySem.Spec PyProof.Rows L2 SG DL
variable {P : Program} {w : World} {K : PySem.W.Frag} {mg : Str → Option Value} {base : Heap}
theorem numT0 : numT 0 = "0" := rfl
/-- a loop over a tuple of the written cell alone -/
theorem rs_forO1 (T : Tx K mg) {ρ ρ1 : Rho} {te : TE} {i j : Nat} {t : TS} (h : EvS te ρ (pcV K)) (turn : RunS t ((ρ.set i (some (.im (.int 0)))).set j (some (.im (.int 0)))) (.nx ρ1)) : RunS (tFor (iTup K te) (gTup K 2 (gCons (gName i) (gCons (gName j) gNil))) t) ρ (.nx ρ1) := fun B σ H D S q => h B σ H _ S fun v H1 g1 r => by
  obtain ⟨a, rfl, e⟩ := r
  have S1 := S.grow g1
  obtain ⟨gb, S2⟩ := S1.hide
  have ea : hideM σ ρ H1 a = some (.tup [.ref (midA K)]) := (hideM_ne (not_mut S1 e rfl)).trans e
  refine ⟨a, rfl, ⟨_, SqT.of e⟩, fun k m σ' H' => (k = 0 ∧ m = 1 ∧ St (hideM σ ρ H1) σ' H' ρ) ∨ (k = 1 ∧ m = 0 ∧ St (hideM σ ρ H1) σ' H' ρ1), ⟨1, .inl ⟨rfl, rfl, S2⟩⟩, ?_⟩
  rintro k m σ' H' (⟨rfl, rfl, S3⟩ | ⟨rfl, rfl, S3⟩)
  · refine .inr ⟨⟨_, _, SqT.of (S3.gr _ _ ea), rfl⟩, fun σ2 H2 => St (hideM σ ρ H1) σ2 H2 ρ1, fun σ2 H2 s => ⟨0, Nat.zero_lt_one, .inr ⟨rfl, rfl, s⟩⟩, fun x H2 y => ?_⟩
    obtain ⟨rfl, y⟩ := y
    have ex : x = .ref (midA K) := (Option.some.inj (y _ (SqT.of (S3.gr _ _ ea)))).symm
    subst ex
    exact ⟨midA K, _, rfl, mid_at T H2, rfl, _, _, rfl, _, _, rfl, rfl, turn _ _ H2 _ ((S3.setIm i (.int 0)).setIm j (.int 0)) fun σ4 H4 S4 => S4⟩
  · exact .inl ⟨⟨_, SqT.of (S3.gr _ _ ea), Nat.le_refl 1⟩, q σ' H' (S3.back gb)⟩

/-! ### told_steps -/
def R_told_steps_m (K : PySem.W.Frag) : List SV → SV → Prop := fun xs z => ∃ (x : Str), xs = [.ro ([x].map .str), pcV K] ∧ x.length ≤ 100 ∧ z = .im (.str (Txt.join " " [x, numT 0, numT 0]))
theorem len_told_steps_m : ∀ xs z, R_told_steps_m K xs z → xs.length = 2 := by
  rintro xs z ⟨_, rfl, _⟩
  rfl
def t_told_steps_m (K : PySem.W.Frag) (P : Program) (w : World) : TS := tSeq (tAsg (tCB (xList K) (tCons (tVar 0) (tNil))) (gName 2)) (tSeq (tFor (iTup K (tVar 1)) (gTup K 2 (gCons (gName 3) (gCons (gName 4) (gNil)))) (tDrop (tBM K "list" (rExtend) (tVar 2) (tCons (tLst (tCons (tCB (xStr) (tCons (tVar 3) (tNil))) (tCons (tCB (xStr) (tCons (tVar 4) (tNil))) (tNil)))) (tNil))))) (tRet (tM1 (xJoin K) (tC (.str " ")) (tVar 2))))
theorem run_told_steps_m (T : Tx K mg) : ∀ xs z, R_told_steps_m K xs z → RunS (t_told_steps_m K P w) (xs.map some ++ List.replicate (5 - xs.length) none) (.rt z) := by
  rintro xs z ⟨x, rfl, hl, rfl⟩
  refine rs_seq (rs_asg (es_cb (ea_cons (es_var (x := .ro ([x].map .str)) rfl rfl) ea_nil) (c_list rfl))) (rs_seq (rs_forO1 T (ρ1 := [some (.ro ([x].map .str)), some (pcV K), some (.own ([x, numT 0, numT 0].map .str)), some (.im (.int 0)), some (.im (.int 0))]) (es_var (x := pcV K) rfl rfl)
    (rs_extend (ds := [x].map .str) (x := .own [.str (numT 0), .str (numT 0)]) (es := [.str (numT 0), .str (numT 0)]) rfl (es_lst (ds := [.str (numT 0), .str (numT 0)]) (ea_cons (es_cb (ea_cons (es_im rfl) ea_nil) (c_str (by decide))) (ea_cons (es_cb (ea_cons (es_im rfl) ea_nil) (c_str (by decide))) ea_nil))) rfl (by show 1 + 2 < 100000; decide)))
    (rs_ret (s_join (ys := [x, numT 0, numT 0]) es_str (es_var (x := .own ([x, numT 0, numT 0].map .str)) rfl rfl) rfl ?_)))
  show x.length + (1 + (1 + 0)) + 3 * 1 ≤ _
  omega
theorem O_told_steps_m (T : Tx K mg) : Ok P w K mg base CX0 1 d_told_steps ["first", "steps"] (spD (R_told_steps_m K)) := by
  obtain ⟨fd, F⟩ := T.fn 66 d_told_steps rfl
  exact ok_data (t := t_told_steps_m K P w) F sc_told_steps (fun _ _ _ _ _ _ us hl => match us, hl with | [_, _], _ => rfl) len_told_steps_m (by decide) (fun cdv A outer s H E hr => pss_cons (ps_set (i := 2) sc_told_steps.nd rfl (by first | exact Or.inl rfl | exact Or.inr rfl) (pe_callTy r_list rfl (T.free 68 rfl) boot_list (pa_cons (pv 0) (pa_nil)))) (pss_cons (ps_for PassesOwn.never rfl (pi_tup (pv 1)) (pg_tup rfl (pgs_cons (pg_name (i := 3) sc_told_steps.nd rfl (by first | exact Or.inl rfl | exact Or.inr rfl)) (pgs_cons (pg_name (i := 4) sc_told_steps.nd rfl (by first | exact Or.inl rfl | exact Or.inr rfl)) (pgs_nil)))) (pss_one (ps_expr (pe_bm PySem.F.plainAttrs_list PySem.F.slot_list_extend PySem.F.type_list_extend mt_extend (pv 2) (pa_cons (pe_lst (pa_cons (pe_callTy r_str rfl (T.free 74 rfl) boot_str (pa_cons (pv 3) (pa_nil))) (pa_cons (pe_callTy r_str rfl (T.free 74 rfl) boot_str (pa_cons (pv 4) (pa_nil))) (pa_nil)))) (pa_nil)))))) (pss_one (ps_ret (r_join (pe_str) (pv 2)))))) (fun xs z h => .rt (run_told_steps_m T xs z h))

theorem Tx.ty (T : Tx K mg) (i : Nat) {x : Str} (h : xa0[i]? = some (fun K => tyB K x)) {H : Hp} {a dx : Addr} {fs : List (Str × V)} (c : Cls K (He.ga K x)) (e : H a = some (.ins (He.ga K x) dx fs)) : TyX K H (.ref a) (.ref (He.ga K x)) := by
  have z := T.xa i _ h
  unfold tyB at z
  rw [Bool.and_eq_true, Bool.and_eq_true, Bool.and_eq_true, decide_eq_true_iff, decide_eq_true_iff] at z
  exact .base (.ins e c (He.eqO_ok z.1) (He.eqO_ok z.2.1) z.2.2.1 z.2.2.2)
theorem es_isO (T : Tx K mg) {ρ : Rho} {te : TE} {D : Addr} {b : Bool} (h : EvS te ρ (plV K .keep)) (hk : PySem.W.kitOne K (.ref (He.ga K "Keep")) (.ref D) = some b) : EvS (tCB (rIsi K) (tCons te (tCons (tC (.ref D)) tNil))) ρ (.im (.bool b)) := fun B σ H Q S q => h B σ H _ S fun v H1 g r => by
  obtain ⟨a, dx, rfl, e⟩ := r
  exact ⟨.ref a, .ref D, .ref (He.ga K "Keep"), .ref D, b, rfl, .own D, T.ty 23 (x := "Keep") rfl (T.cls 95 (x := "Keep") rfl) e, hk, q _ H1 g (.bl b)⟩
theorem Tx.kit (T : Tx K mg) (i : Nat) {x y : Str} (h : xa0[i]? = some (fun K => kitN K x y)) : PySem.W.kitOne K (.ref (He.ga K x)) (.ref (He.ga K y)) = some false := of_decide_eq_true (T.xa i _ h)
theorem kit_self (a : Addr) : PySem.W.kitOne K (.ref a) (.ref a) = some true := by
  unfold PySem.W.kitOne
  rw [if_pos (beq_self_eq_true _)]

/-! ### Plan.parts_in -/
def R_Plan_parts_in (K : PySem.W.Frag) : List SV → SV → Prop := fun xs z => xs = [plV K .keep] ∧ z = .own []
theorem len_Plan_parts_in : ∀ xs z, R_Plan_parts_in K xs z → xs.length = 1 := by
  rintro xs z ⟨rfl, _⟩
  rfl
theorem sc_Plan_parts_in : FnScope ["self"] ["self"] (defScope s_Plan_parts_in) := ⟨rfl, rfl, rfl, by decide +kernel, rfl, by decide +kernel, by decide +kernel⟩
def t_Plan_parts_in (K : PySem.W.Frag) (P : Program) (w : World) : TS := tRet (tLst (tNil))
theorem run_Plan_parts_in (T : Tx K mg) : ∀ xs z, R_Plan_parts_in K xs z → RunS (t_Plan_parts_in K P w) (xs.map some ++ List.replicate (1 - xs.length) none) (.rt z) := by
  rintro xs z ⟨rfl, rfl⟩
  exact rs_ret (es_lst (ds := []) ea_nil)
theorem O_Plan_parts_in (T : Tx K mg) : Ok P w K mg base CX0 1 d_Plan_parts_in ["self"] (spD (R_Plan_parts_in K)) := by
  obtain ⟨fd, F⟩ := T.fn 26 d_Plan_parts_in rfl
  exact ok_data (t := t_Plan_parts_in K P w) F sc_Plan_parts_in (fun _ _ _ _ _ _ us hl => match us, hl with | [_], _ => rfl) len_Plan_parts_in (by decide) (fun cdv A outer s H E hr => pss_one (ps_ret (pe_lst (pa_nil)))) (fun xs z h => .rt (run_Plan_parts_in T xs z h))

/-! ### Keep.about -/
def R_Keep_about (K : PySem.W.Frag) : List SV → SV → Prop := fun xs z => xs = [plV K .keep] ∧ z = plV K .keep
theorem len_Keep_about : ∀ xs z, R_Keep_about K xs z → xs.length = 1 := by
  rintro xs z ⟨rfl, _⟩
  rfl
theorem sc_Keep_about : FnScope ["self"] ["self"] (defScope s_Keep_about) := ⟨rfl, rfl, rfl, by decide +kernel, rfl, by decide +kernel, by decide +kernel⟩
def t_Keep_about (K : PySem.W.Frag) (P : Program) (w : World) : TS := tRet (tMk0 (He.ga K "Keep"))
theorem run_Keep_about (T : Tx K mg) : ∀ xs z, R_Keep_about K xs z → RunS (t_Keep_about K P w) (xs.map some ++ List.replicate (1 - xs.length) none) (.rt z) := by
  rintro xs z ⟨rfl, rfl⟩
  exact rs_ret (es_mk0 fun H a dx e => ⟨a, dx, rfl, e⟩)
theorem O_Keep_about (T : Tx K mg) : Ok P w K mg base CX0 1 d_Keep_about ["self"] (spD (R_Keep_about K)) := by
  obtain ⟨fd, F⟩ := T.fn 27 d_Keep_about rfl
  exact ok_data (t := t_Keep_about K P w) F sc_Keep_about (fun _ _ _ _ _ _ us hl => match us, hl with | [_], _ => rfl) len_Keep_about (by decide) (fun cdv A outer s H E hr => pss_one (ps_ret (pe_mk0 (T.mk0 5 (x := "Keep") rfl) rfl (T.glo 94 rfl)))) (fun xs z h => .rt (run_Keep_about T xs z h))

def tbK (K : PySem.W.Frag) (S : List SV → SV → Prop) : Addr → Sp → Prop := fun C sp => C = He.ga K "Keep" ∧ sp = spD S
theorem mok_parts {X : Cx} (T : Tx K mg) (hr : Room 1 X.A) (ex : X.prog = P ∧ X.w = w ∧ X.K = K ∧ X.mg = mg ∧ X.base = base := by exact ⟨rfl, rfl, rfl, rfl, rfl⟩) : ∀ C sp, tbK K (R_Plan_parts_in K) C sp → MOk X "parts_in" C sp := by
  obtain ⟨rfl, rfl, rfl, rfl, rfl⟩ := ex
  rintro C sp ⟨rfl, rfl⟩
  exact .of (O_Plan_parts_in T) (T.cls 95 (x := "Keep") rfl) (by have h := T.meth 139 (x := "Keep") (m := "parts_in") rfl; rw [T.same 17 (c := "Keep") (d := "Plan") (m := "parts_in") rfl] at h; exact h) hr
theorem mok_about {X : Cx} (T : Tx K mg) (hr : Room 1 X.A) (ex : X.prog = P ∧ X.w = w ∧ X.K = K ∧ X.mg = mg ∧ X.base = base := by exact ⟨rfl, rfl, rfl, rfl, rfl⟩) : ∀ C sp, tbK K (R_Keep_about K) C sp → MOk X "about" C sp := by
  obtain ⟨rfl, rfl, rfl, rfl, rfl⟩ := ex
  rintro C sp ⟨rfl, rfl⟩
  exact .of (O_Keep_about T) (T.cls 95 (x := "Keep") rfl) (T.meth 140 (x := "Keep") (m := "about") rfl) hr
theorem es_keepM {ρ : Rho} {ta : TE} {m : Str} {S : List SV → SV → Prop} {z : SV} (h : EvS ta ρ (plV K .keep)) (hS : S [plV K .keep] z) : EvS (tMP m (tbK K S) ta tNil) ρ z := es_mp (R := S) h rfl (fun v H r => by
  obtain ⟨a, dx, e, ea⟩ := r
  exact ⟨a, _, dx, [], e, ea, ⟨rfl, rfl⟩, rfl⟩) ea_nil hS

/-! ### of_plain -/
def R_of_plain (K : PySem.W.Frag) : List SV → (V → Hp → Prop) → Prop := fun xs Po => xs = [plV K .keep] ∧ Po = lstP [pcV K]
theorem len_of_plain : ∀ xs z, R_of_plain K xs z → xs.length = 1 := by
  rintro xs z ⟨rfl, _⟩
  rfl
theorem sc_of_plain : FnScope ["plan"] ["plan"] (defScope s_of_plain) := ⟨rfl, rfl, rfl, by decide +kernel, rfl, by decide +kernel, by decide +kernel⟩
def t_of_plain (K : PySem.W.Frag) (P : Program) (w : World) : TS := tSeq (tIfS (tB (tCB (rIsi K) (tCons (tVar 0) (tCons (tC (.ref (He.ga K "Keep"))) (tNil))))) (tRet (tLst (tCons (tTup (tCons (tC (.ref (He.ga K "MIDDLE_least"))) (tNil))) (tNil)))) (tNext)) (tSeq (tIfS (tB (tCB (rIsi K) (tCons (tVar 0) (tCons (tC (.ref (He.ga K "Everything"))) (tNil))))) (tRet (tLst (tCons (tTup (tNil)) (tNil)))) (tNext)) (tRet (tLst (tNil))))
theorem run_of_plain (T : Tx K mg) : ∀ xs z, R_of_plain K xs z → RunS (t_of_plain K P w) (xs.map some ++ List.replicate (1 - xs.length) none) (.rp z) := by
  rintro xs Po ⟨rfl, rfl⟩
  refine rs_ifRp (et_B (es_isO T (es_var (x := plV K .keep) rfl rfl) (kit_self _))) fun B σ H D S q => ⟨by show 1 ≤ sizeLine; rw [sizeLine_eq]; decide, fun p hp => ⟨by show 1 ≤ sizeLine; rw [sizeLine_eq]; decide, fun l hl => ?_⟩⟩
  have g1 := Gr.new (.tup [.ref (midA K)]) hp
  have g2 := Gr.new (.lst [.ref p]) hl
  exact q _ _ (S.gr.trans (g1.trans g2)) ⟨l, [.ref p], rfl, upd_same, .cons ⟨p, rfl, g2 _ _ upd_same⟩ .nil⟩
theorem O_of_plain (T : Tx K mg) : Ok P w K mg base CX0 1 d_of_plain ["plan"] (spP (R_of_plain K)) := by
  obtain ⟨fd, F⟩ := T.fn 40 d_of_plain rfl
  exact ok_dataP (t := t_of_plain K P w) F sc_of_plain (fun _ _ _ _ _ _ us hl => match us, hl with | [_], _ => rfl) len_of_plain (by decide) (fun cdv A outer s H E hr => pss_cons (ps_if (pt_val (pe_callB call_isi rfl (T.free 64 rfl) boot_isinstance (pa_cons (pv 0) (pa_cons (pe_glob rfl (T.glo 94 rfl) rfl) (pa_nil))))) (pss_one (ps_ret (pe_lst (pa_cons (pe_tup (pa_cons (pe_glob rfl (T.glo 199 rfl) rfl) (pa_nil))) (pa_nil))))) (pss_nil)) (pss_cons (ps_if (pt_val (pe_callB call_isi rfl (T.free 64 rfl) boot_isinstance (pa_cons (pv 0) (pa_cons (pe_glob rfl (T.glo 98 rfl) rfl) (pa_nil))))) (pss_one (ps_ret (pe_lst (pa_cons (pe_tup (pa_nil)) (pa_nil))))) (pss_nil)) (pss_one (ps_ret (pe_lst (pa_nil)))))) (run_of_plain T)

theorem no_least (T : Tx K mg) (j : Nat) : Ok P w K mg base CX0 j d_least_pieces ["plan"] (fun _ _ _ _ => False) := by
  obtain ⟨fd, F⟩ := T.fn 41 d_least_pieces rfl
  exact ok_noV F (fun _ _ _ _ _ _ us hl => match us, hl with | [_], _ => rfl)

/-! ### least_pieces -/
def R_least_pieces (K : PySem.W.Frag) : List SV → (V → Hp → Prop) → Prop := fun xs Po => xs = [plV K .keep] ∧ Po = lstP [pcV K]
theorem len_least_pieces : ∀ xs z, R_least_pieces K xs z → xs.length = 1 := by
  rintro xs z ⟨rfl, _⟩
  rfl
theorem sc_least_pieces : FnScope ["plan", "part", "inner"] ["plan"] (defScope s_least_pieces) := ⟨rfl, rfl, rfl, by decide +kernel, rfl, by decide +kernel, by decide +kernel⟩
def t_least_pieces (K : PySem.W.Frag) (P : Program) (w : World) : TS := tSeq (tAsg (tLc (iList K (tMP "parts_in" (tbK K (R_Plan_parts_in K)) (tVar 0) tNil)) (gName 1) (tYes) (tCall (fun _ _ _ _ => False) [] E0 (tCons (tVar 1) (tNil))) [1]) (gName 2)) (tSeq (tIfS (tB (tCB (rIsi K) (tCons (tVar 0) (tCons (tC (.ref (He.ga K "Move"))) (tNil))))) (tNever) (tNext)) (tSeq (tIfS (tB (tCB (rIsi K) (tCons (tVar 0) (tCons (tC (.ref (He.ga K "Eat"))) (tNil))))) (tNever) (tNext)) (tSeq (tIfS (tB (tCB (rIsi K) (tCons (tVar 0) (tCons (tC (.ref (He.ga K "Grow"))) (tNil))))) (tNever) (tNext)) (tSeq (tIfS (tB (tCB (rIsi K) (tCons (tVar 0) (tCons (tC (.ref (He.ga K "Both"))) (tNil))))) (tNever) (tNext)) (tSeq (tIfS (tB (tCB (rIsi K) (tCons (tVar 0) (tCons (tC (.ref (He.ga K "Either"))) (tNil))))) (tNever) (tNext)) (tRet (tCall (spP (R_of_plain K)) [] E0 (tCons (tVar 0) (tNil)))))))))
theorem run_least_pieces (T : Tx K mg) : ∀ xs z, R_least_pieces K xs z → RunS (t_least_pieces K P w) (xs.map some ++ List.replicate (3 - xs.length) none) (.rp z) := by
  rintro xs Po ⟨rfl, rfl⟩
  exact rs_seq (rs_asg (es_lcL (α := Unit) (enc := fun _ => .none) (l := []) (f := fun _ => none) (x := .own []) (es_keepM (es_var (x := plV K .keep) rfl rfl) ⟨rfl, rfl⟩) rfl (fun a h => nomatch h) (by decide))) (rs_ifNo (et_B (es_isO T (es_var (x := plV K .keep) rfl rfl) (T.kit 18 (x := "Keep") (y := "Move") rfl))) (rs_ifNo (et_B (es_isO T (es_var (x := plV K .keep) rfl rfl) (T.kit 19 (x := "Keep") (y := "Eat") rfl))) (rs_ifNo (et_B (es_isO T (es_var (x := plV K .keep) rfl rfl) (T.kit 20 (x := "Keep") (y := "Grow") rfl))) (rs_ifNo (et_B (es_isO T (es_var (x := plV K .keep) rfl rfl) (T.kit 21 (x := "Keep") (y := "Both") rfl))) (rs_ifNo (et_B (es_isO T (es_var (x := plV K .keep) rfl rfl) (T.kit 22 (x := "Keep") (y := "Either") rfl))) (rs_retP (evp_callP (ea_cons (es_var (x := plV K .keep) rfl rfl) ea_nil) ⟨rfl, rfl⟩)))))))
theorem O_least_pieces (T : Tx K mg) : Ok P w K mg base CX0 3 d_least_pieces ["plan"] (spP (R_least_pieces K)) := by
  obtain ⟨fd, F⟩ := T.fn 41 d_least_pieces rfl
  exact ok_dataP (t := t_least_pieces K P w) F sc_least_pieces (fun _ _ _ _ _ _ us hl => match us, hl with | [_], _ => rfl) len_least_pieces (by decide) (fun cdv A outer s H E hr => pss_cons (ps_setLc (i := 2) (own := [("part", 1)]) (g := gName 1) (tt := tYes) rfl sc_least_pieces.nd rfl rfl (sw_true rfl rfl rfl (by decide +kernel)) (pi_list (pe_mp0 (pv 0) (mok_parts T (hr.mono (by decide))))) (blkOk_by (N := ["plan", "part", "inner"]) (sc := defScope s_least_pieces) (by decide +kernel)) (fun _ _ _ _ _ => pg_name (i := 1) sc_least_pieces.nd rfl (by first | exact Or.inl rfl | exact Or.inr rfl)) (fun _ _ _ _ _ => pts_nil) (fun _ _ _ _ _ => pe_own (no_least T 1) (hr.mono (by first | decide | omega)) rfl (T.glo 24 rfl) pass0 (pa_cons (pv 1) (pa_nil)))) (pss_cons (ps_if (pt_val (pe_callB call_isi rfl (T.free 64 rfl) boot_isinstance (pa_cons (pv 0) (pa_cons (pe_glob rfl (T.glo 100 rfl) rfl) (pa_nil))))) (pss_never) (pss_nil)) (pss_cons (ps_if (pt_val (pe_callB call_isi rfl (T.free 64 rfl) boot_isinstance (pa_cons (pv 0) (pa_cons (pe_glob rfl (T.glo 102 rfl) rfl) (pa_nil))))) (pss_never) (pss_nil)) (pss_cons (ps_if (pt_val (pe_callB call_isi rfl (T.free 64 rfl) boot_isinstance (pa_cons (pv 0) (pa_cons (pe_glob rfl (T.glo 104 rfl) rfl) (pa_nil))))) (pss_never) (pss_nil)) (pss_cons (ps_if (pt_val (pe_callB call_isi rfl (T.free 64 rfl) boot_isinstance (pa_cons (pv 0) (pa_cons (pe_glob rfl (T.glo 106 rfl) rfl) (pa_nil))))) (pss_never) (pss_nil)) (pss_cons (ps_if (pt_val (pe_callB call_isi rfl (T.free 64 rfl) boot_isinstance (pa_cons (pv 0) (pa_cons (pe_glob rfl (T.glo 108 rfl) rfl) (pa_nil))))) (pss_never) (pss_nil)) (pss_one (ps_ret (pe_own (O_of_plain T) (hr.mono (by first | decide | omega)) rfl (T.glo 23 rfl) pass0 (pa_cons (pv 0) (pa_nil))))))))))) (run_least_pieces T)

/-! ### bars -/
def R_bars (K : PySem.W.Frag) : List SV → (V → Hp → Prop) → Prop := fun xs Po => xs = [plV K .keep] ∧ Po = lstP [pcV K]
theorem len_bars : ∀ xs z, R_bars K xs z → xs.length = 1 := by
  rintro xs z ⟨rfl, _⟩
  rfl
theorem sc_bars : FnScope ["plan"] ["plan"] (defScope s_bars) := ⟨rfl, rfl, rfl, by decide +kernel, rfl, by decide +kernel, by decide +kernel⟩
def t_bars (K : PySem.W.Frag) (P : Program) (w : World) : TS := tRet (tCall (spP (R_least_pieces K)) [] E0 (tCons (tMP "about" (tbK K (R_Keep_about K)) (tVar 0) tNil) (tNil)))
theorem run_bars (T : Tx K mg) : ∀ xs z, R_bars K xs z → RunS (t_bars K P w) (xs.map some ++ List.replicate (1 - xs.length) none) (.rp z) := by
  rintro xs Po ⟨rfl, rfl⟩
  exact rs_retP (evp_callP (xs := [plV K .keep]) (ea_cons (es_keepM (es_var (x := plV K .keep) rfl rfl) ⟨rfl, rfl⟩) ea_nil) ⟨rfl, rfl⟩)
theorem O_bars (T : Tx K mg) : Ok P w K mg base CX0 4 d_bars ["plan"] (spP (R_bars K)) := by
  obtain ⟨fd, F⟩ := T.fn 42 d_bars rfl
  exact ok_dataP (t := t_bars K P w) F sc_bars (fun _ _ _ _ _ _ us hl => match us, hl with | [_], _ => rfl) len_bars (by decide) (fun cdv A outer s H E hr => pss_one (ps_ret (pe_own (O_least_pieces T) (hr.mono (by first | decide | omega)) rfl (T.glo 24 rfl) pass0 (pa_cons (pe_mp0 (pv 0) (mok_about T (hr.mono (by decide)))) (pa_nil))))) (run_bars T)
end K91
/-! ==== K23 -/
set_option maxRecDepth 100000
set_option maxHeartbeats 4000000
namespace K91
open PySem PySem.Spec PyProof.Rows L2 SG DL
variable {P : Program} {w : World} {K : PySem.W.Frag} {mg : Str → Option Value} {base : Heap}
def noMut (ρ : Rho) : Bool := ρ.all fun x => match x with
  | some y => !y.mut
  | none => true
theorem hide_none {σ : L2.St} {ρ : Rho} {H : Hp} (h : noMut ρ = true) : hideM σ ρ H = H := funext fun a => hideM_ne fun ⟨i, x, e, m, _⟩ => by
  have := (List.all_eq_true.mp h) (some x) (List.mem_of_getElem? e)
  have this : (!x.mut) = true := this
  rw [m] at this
  cases this
theorem rs_forL1 {ρ : Rho} {te : TE} {j : Nat} {t : TS} {x : SV} {o : Out} (hx : SV.loose x = true) (h : EvP te ρ (lstP [x])) (nm : noMut ρ = true) (ho : (∃ ρ1, o = .nx ρ1) ∨ ∃ Po, o = .rp Po) (turn : RunS t (ρ.set j (some x)) o) : RunS (tFor (iList K te) (gName j) t) ρ o := fun B σ H D S q => h B σ H _ S fun v H1 g1 r => by
  obtain ⟨l, us, rfl, el, pr⟩ := r
  obtain ⟨u, rfl, hu⟩ : ∃ u, us = [u] ∧ SH H1 H1 u x := by
    cases pr with
    | cons a r => cases r; exact ⟨_, rfl, a⟩
  obtain ⟨gb, S2⟩ := (S.grow g1).hide
  rw [hide_none nm] at gb S2
  refine ⟨l, rfl, ⟨_, SqL.of el⟩, fun k m σ' H' => (k = 0 ∧ m = 1 ∧ St H1 σ' H' ρ) ∨ (k = 1 ∧ m = 0 ∧ Gr H1 H' ∧ D.nx σ' H'), ⟨1, .inl ⟨rfl, rfl, S2⟩⟩, ?_⟩
  rintro k m σ' H' (⟨rfl, rfl, S3⟩ | ⟨rfl, rfl, g3, d3⟩)
  · refine .inr ⟨⟨_, _, SqL.of (S3.gr _ _ el), rfl⟩, fun σ2 H2 => Gr H1 H2 ∧ D.nx σ2 H2, fun σ2 H2 s => ⟨0, Nat.zero_lt_one, .inr ⟨rfl, rfl, s⟩⟩, fun z H2 y => ?_⟩
    obtain ⟨rfl, y⟩ := y
    have ez : z = u := (Option.some.inj (y _ (SqL.of (S3.gr _ _ el)))).symm
    subst ez
    refine turn H1 _ H2 _ (S3.set j (loose_any hx S3.gr hu) fun l => absurd l (by rw [loose_lsty hx]; exact Bool.false_ne_true)) ?_
    rcases ho with ⟨ρ1, rfl⟩ | ⟨Po, rfl⟩
    · exact fun σ4 H4 S4 => ⟨S4.gr, (q.back gb) σ4 H4 S4⟩
    · exact q.back gb
  · exact .inl ⟨⟨_, SqL.of (g3 _ _ el), Nat.le_refl 1⟩, d3⟩
def tagP (x : Str) (Pp : V → Hp → Prop) : V → Hp → Prop := fun v H => ∃ a u, v = .ref a ∧ H a = some (.tup [.str x, u]) ∧ Pp u H
theorem rs_retTag {ρ : Rho} {te : TE} {x : Str} {Pp : V → Hp → Prop} {m} (h : EvS te ρ (.ob Pp m)) : RunS (tRet (tTup (tCons (tC (.str x)) (tCons te tNil)))) ρ (.rp (tagP x Pp)) := fun B σ H D S q => h B σ H _ S fun u H1 g1 r => ⟨by show 2 ≤ sizeLine; rw [sizeLine_eq]; decide, fun p hp => by
  have g2 := Gr.new (.tup [.str x, u]) hp
  exact q _ _ (S.gr.trans (g1.trans g2)) ⟨p, u, rfl, upd_same, m _ _ _ g2.kp r⟩⟩
theorem rs_found {ρ : Rho} {ta : TE} {tt : TT} {Pp : V → Hp → Prop} {m} {g : Str} (h : EvP ta ρ (lstP [.ob Pp m])) (len : ρ.length = 5) (cl : EvT tt ((ρ.set 3 none).set 3 (some (.ob Pp m))) true) :
    RunS (tSeq (tAsg (tLc (iList K ta) (gName 3) tt (tVar 3) [3]) (gName 4)) (tRet (tTup (tCons (tC (.str g)) (tCons (tOp (rIx K) (tVar 4) (tC (.int 0))) tNil))))) ρ (.rp (tagP g Pp)) := fun B σ H D S q => h B σ H _ S fun v H1 g1 r => by
  obtain ⟨l, us, rfl, el, pr⟩ := r
  obtain ⟨u, rfl, hu⟩ : ∃ u, us = [u] ∧ Pp u H1 := by
    cases pr with
    | cons a r => cases r; exact ⟨_, rfl, a⟩
  have S1 := S.grow g1
  refine ⟨l, rfl, ⟨_, SqL.of el⟩, fun D' hD => ?_⟩
  have gD := Gr.new (.lst []) hD
  have neD : ∀ {b : Addr} {o : HO}, H1 b = some o → b ≠ D' := fun e z => by rw [z, hD] at e; cases e
  refine ⟨fun i k H2 => (i = 0 ∧ k = 1 ∧ Gr H1 H2 ∧ H2 D' = some (.lst [])) ∨ (i = 1 ∧ k = 0 ∧ Gr H1 H2 ∧ H2 D' = some (.lst [u])), ⟨1, .inl ⟨rfl, rfl, gD, upd_same⟩⟩, ?_⟩
  have ls : 3 < σ.length := by rw [S.len, len]; decide
  have ls4 : 4 < σ.length := by rw [S.len, len]; decide
  rintro i k H2 (⟨rfl, rfl, g2, e2⟩ | ⟨rfl, rfl, g2, e2⟩)
  · refine .inr ⟨⟨_, _, SqL.of (g2 _ _ el), rfl⟩, fun H3 => Gr H1 H3 ∧ H3 D' = some (.lst [u]), fun H3 h3 => ⟨0, Nat.zero_lt_one, .inr ⟨rfl, rfl, h3.1, h3.2⟩⟩, fun z H3 yl => ?_⟩
    obtain ⟨rfl, yl⟩ := yl
    have ez : z = u := (Option.some.inj (yl _ (SqL.of (g2 _ _ el)))).symm
    subst ez
    have S2 : St B (wipe σ [3]) H3 (ρ.set 3 none) := wipe_St (vs := [3]) (S1.grow g2)
    have S3 := S2.set 3 (x := .ob Pp m) (m _ _ _ g2.kp hu) fun l => nomatch l
    refine ⟨?_, cl B _ H3 _ S3 fun H4 g4 => ?_⟩
    · show (((wipe σ [3]).set 3 (some z)).set 3 none) = (wipe σ []).set 3 none
      show ((((σ.set 3 none)).set 3 (some z)).set 3 none) = σ.set 3 none
      rw [List.set_set, List.set_set]
    · refine iteT ⟨z, ?_, [], g4 _ _ e2, by rw [sizeLine_eq]; decide, fun b o e => ?_, upd_same⟩
      · show ((σ.set 3 none).set 3 (some z))[3]? = _
        rw [List.getElem?_set_self (by rw [List.length_set]; exact ls)]
      · rw [upd_ne (neD e)]
        exact g4 _ _ (g2 _ _ e)
  · refine .inl ⟨⟨_, SqL.of (g2 _ _ el), Nat.le_refl 1⟩, _, List.getElem?_set_self ls4, .inl ⟨D', [u], 0, u, rfl, rfl, SqL.of e2, atI_nat (j := 0) rfl, by show 2 ≤ sizeLine; rw [sizeLine_eq]; decide, fun p hp => ?_⟩⟩
    have g3 := Gr.new (.tup [.str g, u]) hp
    exact q _ _ (S.gr.trans ((g1.trans g2).trans g3)) ⟨p, u, rfl, upd_same, m _ _ _ (g2.trans g3).kp hu⟩
def pcP (K : PySem.W.Frag) : V → Hp → Prop := fun v H => ∃ a, v = .ref a ∧ H a = some (.tup [.ref (midA K)])

/-! ### answer -/
def R_answer (K : PySem.W.Frag) : List SV → (V → Hp → Prop) → Prop := fun xs Po => ∃ (s : Shp) (c : Cell), xs = [plV K .keep, .im (shD s), .im (cD c)] ∧ Po = tagP (if hasB s c = true then "piece" else "bar") (pcP K)
theorem len_answer : ∀ xs z, R_answer K xs z → xs.length = 3 := by
  rintro xs z ⟨_, _, rfl, _⟩
  rfl
theorem sc_answer : FnScope ["plan", "shape", "cell", "steps", "found"] ["plan", "shape", "cell"] (defScope s_answer) := ⟨rfl, rfl, rfl, by decide +kernel, rfl, by decide +kernel, by decide +kernel⟩
def t_answer (K : PySem.W.Frag) (P : Program) (w : World) : TS := tSeq (tFor (iList K (tCall (spP (R_least_pieces K)) [] E0 (tCons (tVar 0) (tNil)))) (gName 3) (tIfS (tB (tCall (spD (R_whole_at_m K)) [] E0 (tCons (tVar 1) (tCons (tVar 3) (tCons (tVar 2) (tNil)))))) (tRet (tTup (tCons (tC (.str "piece")) (tCons (tVar 3) (tNil))))) (tNext))) (tSeq (tAsg (tLc (iList K (tCall (spP (R_bars K)) [] E0 (tCons (tVar 0) (tNil)))) (gName 3) (tB (tCall (spD (R_clear_at_m K)) [] E0 (tCons (tVar 1) (tCons (tVar 3) (tCons (tVar 2) (tNil)))))) (tVar 3) [3]) (gName 4)) (tRet (tTup (tCons (tC (.str "bar")) (tCons (tOp (rIx K) (tVar 4) (tC (.int 0))) (tNil))))))
theorem run_answer (T : Tx K mg) : ∀ xs z, R_answer K xs z → RunS (t_answer K P w) (xs.map some ++ List.replicate (5 - xs.length) none) (.rp z) := by
  rintro xs Po ⟨s, c, rfl, rfl⟩
  cases hb : hasB s c
  · refine rs_seq (rs_forL1 (x := pcV K) rfl (evp_callP (xs := [plV K .keep]) (ea_cons (es_var (x := plV K .keep) rfl rfl) ea_nil) ⟨rfl, rfl⟩) rfl (.inl ⟨_, rfl⟩) (rs_ifF (et_B (es_to (congrArg (fun b => SV.im (.bool b)) hb) (es_call (z := .im (.bool (hasB s c))) (ea_cons (es_im rfl) (ea_cons (es_var (x := pcV K) rfl rfl) (ea_cons (es_im rfl) ea_nil))) ⟨s, c, rfl, rfl⟩))) rs_next)) ?_
    exact rs_found (Pp := pcP K) (evp_callP (xs := [plV K .keep]) (ea_cons (es_var (x := plV K .keep) rfl rfl) ea_nil) ⟨rfl, rfl⟩) rfl (et_B (es_to (congrArg (fun b => SV.im (.bool b)) (show (!hasB s c) = true by rw [hb]; rfl)) (es_call (z := .im (.bool (!hasB s c))) (ea_cons (es_im rfl) (ea_cons (es_var (x := pcV K) rfl rfl) (ea_cons (es_im rfl) ea_nil))) ⟨s, c, rfl, rfl⟩)))
  · exact rs_seqRp (rs_forL1 (x := pcV K) rfl (evp_callP (xs := [plV K .keep]) (ea_cons (es_var (x := plV K .keep) rfl rfl) ea_nil) ⟨rfl, rfl⟩) rfl (.inr ⟨_, rfl⟩) (rs_ifRpE (et_B (es_to (congrArg (fun b => SV.im (.bool b)) hb) (es_call (z := .im (.bool (hasB s c))) (ea_cons (es_im rfl) (ea_cons (es_var (x := pcV K) rfl rfl) (ea_cons (es_im rfl) ea_nil))) ⟨s, c, rfl, rfl⟩))) (rs_retTag (es_var (x := pcV K) rfl rfl))))
theorem O_answer (T : Tx K mg) : Ok P w K mg base CX0 5 d_answer ["plan", "shape", "cell"] (spP (R_answer K)) := by
  obtain ⟨fd, F⟩ := T.fn 43 d_answer rfl
  exact ok_dataP (t := t_answer K P w) F sc_answer (fun _ _ _ _ _ _ us hl => match us, hl with | [_, _, _], _ => rfl) len_answer (by decide) (fun cdv A outer s H E hr => pss_cons (ps_for PassesOwn.never rfl (pi_list (pe_own (O_least_pieces T) (hr.mono (by first | decide | omega)) rfl (T.glo 24 rfl) pass0 (pa_cons (pv 0) (pa_nil)))) (pg_name (i := 3) sc_answer.nd rfl (by first | exact Or.inl rfl | exact Or.inr rfl)) (pss_one (ps_if (pt_val (pe_own (O_whole_at_m T) (hr.mono (by first | decide | omega)) rfl (T.glo 17 rfl) pass0 (pa_cons (pv 1) (pa_cons (pv 3) (pa_cons (pv 2) (pa_nil)))))) (pss_one (ps_ret (pe_tup (pa_cons (pe_str) (pa_cons (pv 3) (pa_nil)))))) (pss_nil)))) (pss_cons (ps_setLc (i := 4) (own := [("steps", 3)]) (g := gName 3) (tt := tB (tCall (spD (R_clear_at_m K)) [] E0 (tCons (tVar 1) (tCons (tVar 3) (tCons (tVar 2) (tNil)))))) rfl sc_answer.nd rfl rfl (sw_true rfl rfl rfl (by decide +kernel)) (pi_list (pe_own (O_bars T) (hr.mono (by first | decide | omega)) rfl (T.glo 25 rfl) pass0 (pa_cons (pv 0) (pa_nil)))) (blkOk_by (N := ["plan", "shape", "cell", "steps", "found"]) (sc := defScope s_answer) (by decide +kernel)) (fun _ _ _ _ _ => pg_name (i := 3) sc_answer.nd rfl (by first | exact Or.inl rfl | exact Or.inr rfl)) (fun _ _ _ _ _ => pts_one (pt_val (pe_own (O_clear_at_m T) (hr.mono (by first | decide | omega)) rfl (T.glo 18 rfl) pass0 (pa_cons (pv 1) (pa_cons (pv 3) (pa_cons (pv 2) (pa_nil))))))) (fun _ _ _ _ _ => pv 3)) (pss_one (ps_ret (pe_tup (pa_cons (pe_str) (pa_cons (pe_ix ix_seq (pv 4) (pe_int) (fun _ _ => rfl)) (pa_nil)))))))) (run_answer T)
end K91
/-! ==== K24 -/
set_option maxRecDepth 100000
set_option maxHeartbeats 4000000
namespace K91
open PySem PySem.Spec PyProof.Rows L2 SG DL
variable {P : Program} {w : World} {K : PySem.W.Frag} {mg : Str → Option Value} {base : Heap}
theorem sc_answered : FnScope ["shape", "word", "values", "first", "steps"] ["shape", "word", "values"] (defScope s_answered) := ⟨rfl, rfl, rfl, by decide +kernel, rfl, by decide +kernel, by decide +kernel⟩
def t_answered (K : PySem.W.Frag) (P : Program) (w : World) : TS := tSeq (tIfS (tTest (tOp (rEqD K) (tVar 1) (tC (.str "has")))) (tRet (tOp (rIx K) (tLst (tCons (tC (.str "no")) (tCons (tC (.str "yes")) (tNil)))) (tCB (xInt) (tCons (tCall (spD R_has) [] E0 (tCons (tVar 0) (tCons (tOp (rIx K) (tVar 2) (tC (.int 0))) (tNil)))) (tNil))))) (tNext)) (tSeq (tIfS (tTest (tOp (rEqD K) (tVar 1) (tC (.str "count")))) (tRet (tCall (spD R_told_count) [] E0 (tCons (tVar 0) (tNil)))) (tNext)) (tSeq (tIfS (tTest (tOp (rEqD K) (tVar 1) (tC (.str "show")))) (tRet (tCall (spD R_drawn) [] E0 (tCons (tVar 0) (tCons (tOp (rIx K) (tVar 2) (tC (.int 0))) (tCons (tOp (rIx K) (tVar 2) (tC (.int 1))) (tCons (tOp (rIx K) (tVar 2) (tC (.int 2))) (tCons (tOp (rIx K) (tVar 2) (tC (.int 3))) (tNil)))))))) (tNext)) (tSeq (tIfS (tTest (tOp (rEqD K) (tVar 1) (tC (.str "why")))) (tSeq (tAsg (tCall (spP (R_answer K)) [] E0 (tCons (tOp (rIx K) (tVar 2) (tC (.int 1))) (tCons (tVar 0) (tCons (tOp (rIx K) (tVar 2) (tC (.int 0))) (tNil))))) (gTup K 2 (gCons (gName 3) (gCons (gName 4) (gNil))))) (tRet (tCall (spD (R_told_steps_m K)) [] E0 (tCons (tLst (tCons (tVar 3) (tNil))) (tCons (tVar 4) (tNil)))))) (tNext)) (tNever))))
/-- what a question is answered -/
def anF (s : Shp) : RowK → Str
  | .cell _ c => if hasB s c = true then "yes" else "no"
  | .pic c => if hasB s c = true then "#" else "."
  | .why c => Txt.join " " [if hasB s c = true then "piece" else "bar", numT 0, numT 0]
  | _ => if s.2 = true then "endless" else numT s.1.length
def anOk : RowK → Prop
  | .cell x _ => x = "has"
  | .bare x => x = "count"
  | .pic c => farC c = true
  | .why _ => True
  | _ => False
theorem run_answered_has (s : Shp) (c : Cell) : RunS (t_answered K P w) [some (.im (shD s)), some (.im (.str "has")), some (.ro [cD c]), none, none] (.rt (.im (.str (if hasB s c = true then "yes" else "no")))) := by
  refine rs_to ?_ (rs_ifRt (et_to (by show decide (("has" : Str) = "has") = true; decide) (et_test (es_isT (x := "has") (es_im rfl) (by decide +kernel) (by decide +kernel)))) (rs_ret (es_two (x := .str "no") (y := .str "yes") es_str es_str (es_call (z := .im (.bool (hasB s c))) (ea_cons (es_im rfl) (ea_cons (es_op (z := .im (cD c)) (es_var (x := .ro [cD c]) rfl rfl) es_int (s_ixL rfl rfl)) ea_nil)) ⟨s, c, rfl, rfl⟩))))
  split <;> rfl
theorem run_answered_count (s : Shp) (hl : s.1.length < 100000) : RunS (t_answered K P w) [some (.im (shD s)), some (.im (.str "count")), some (.ro []), none, none] (.rt (.im (.str (if s.2 = true then "endless" else numT s.1.length)))) := by
  exact rs_ifNo (et_to (by show decide (("count" : Str) = "has") = false; decide) (et_test (es_isT (x := "count") (es_im rfl) (by decide +kernel) (by decide +kernel)))) (rs_ifRt (et_to (by show decide (("count" : Str) = "count") = true; decide) (et_test (es_isT (x := "count") (es_im rfl) (by decide +kernel) (by decide +kernel)))) (rs_ret (es_call (z := .im (.str (if s.2 = true then "endless" else numT s.1.length))) (ea_cons (es_im rfl) ea_nil) ⟨s, rfl, hl, rfl⟩)))
theorem run_answered_show (s : Shp) (hl : s.1.length < 100000) (c : Cell) (hf : farC c = true) : RunS (t_answered K P w) [some (.im (shD s)), some (.im (.str "show")), some (.ro [.int c.1, .int c.2, .int 1, .int 1]), none, none] (.rt (.im (.str (if hasB s c = true then "#" else ".")))) := by
  have f := farC_iff hf
  exact rs_ifNo (et_to (by show decide (("show" : Str) = "has") = false; decide) (et_test (es_isT (x := "show") (es_im rfl) (by decide +kernel) (by decide +kernel)))) (rs_ifNo (et_to (by show decide (("show" : Str) = "count") = false; decide) (et_test (es_isT (x := "show") (es_im rfl) (by decide +kernel) (by decide +kernel)))) (rs_ifRt (et_to (by show decide (("show" : Str) = "show") = true; decide) (et_test (es_isT (x := "show") (es_im rfl) (by decide +kernel) (by decide +kernel)))) (rs_ret (es_call (z := .im (.str (if hasB s c = true then "#" else "."))) (ea_cons (es_im rfl) (ea_cons (es_op (z := .im (.int c.1)) (es_var (x := .ro [.int c.1, .int c.2, .int 1, .int 1]) rfl rfl) es_int (s_ixL rfl rfl)) (ea_cons (es_op (z := .im (.int c.2)) (es_var (x := .ro [.int c.1, .int c.2, .int 1, .int 1]) rfl rfl) es_int (s_ixL rfl rfl)) (ea_cons (es_op (z := .im (.int 1)) (es_var (x := .ro [.int c.1, .int c.2, .int 1, .int 1]) rfl rfl) es_int (s_ixL rfl rfl)) (ea_cons (es_op (z := .im (.int 1)) (es_var (x := .ro [.int c.1, .int c.2, .int 1, .int 1]) rfl rfl) es_int (s_ixL rfl rfl)) ea_nil))))) ⟨s, c, rfl, Nat.lt_of_le_of_lt f.1 (by decide), Nat.lt_of_le_of_lt f.2 (by decide), hl, rfl⟩))))
def spAn (K : PySem.W.Frag) : Sp := fun vs H Q _ => ∃ (v0 lv : V) (s : Shp) (r : RowK), vs = [v0, .str (rowTag r), lv] ∧ Im H v0 (shD s) ∧ lstP (rowV K r) lv H ∧ s.1.length < 100000 ∧ anOk r ∧ ∀ v H', Gr H H' → Im H' v (.str (anF s r)) → Q v H'
theorem len_An : ∀ vs H Q E, spAn K vs H Q E → vs.length = 3 := by
  rintro vs H Q E ⟨_, _, _, _, rfl, _⟩
  rfl
theorem run_answered (T : Tx K mg) (vs : List V) (H : Hp) (Q : VK) (E : XK) (h : spAn K vs H Q E) : t_answered K P w { nx := fun _ H' => Q .non H', rt := Q } (L2.start ["shape", "word", "values", "first", "steps"] vs) H := by
  obtain ⟨v0, lv, s, r, rfl, iv, hv, hl, ho, q⟩ := h
  have go : ∀ (tag : Str) (ds : List PyData) (x : Str), SH H H lv (.ro ds) → RunS (t_answered K P w) [some (.im (shD s)), some (.im (.str tag)), some (.ro ds), none, none] (.rt (.im (.str x))) → (∀ v H', Gr H H' → Im H' v (.str x) → Q v H') → t_answered K P w { nx := fun _ H' => Q .non H', rt := Q } (L2.start ["shape", "word", "values", "first", "steps"] [v0, .str tag, lv]) H := fun tag ds x hro run q' =>
    run H _ H _ (start_St (N := ["shape", "word", "values", "first", "steps"]) (xs := [.im (shD s), .im (.str tag), .ro ds]) (.cons iv (.cons (.str _) (.cons hro .nil))) (by show 3 ≤ 5; decide)) fun v H' gr i => q' v H' gr i
  cases r with
  | bare x =>
    have ho : x = "count" := ho
    subst ho
    exact go "count" [] _ (ro_of (ds := []) hv) (run_answered_count s hl) q
  | cell x c =>
    have ho : x = "has" := ho
    subst ho
    exact go "has" [cD c] _ (ro_of (ds := [cD c]) hv) (run_answered_has s c) q
  | turn t => exact ho.elim
  | plan t => exact ho.elim
  | pic c => exact go "show" [.int c.1, .int c.2, .int 1, .int 1] _ (ro_of (ds := [.int c.1, .int c.2, .int 1, .int 1]) hv) (run_answered_show s hl c ho) q
  | why c =>
    obtain ⟨l, us, rfl, el, pr⟩ := hv
    obtain ⟨u0, pv, rfl, hu0, hpv⟩ : ∃ u0 pv, us = [u0, pv] ∧ Im H u0 (cD c) ∧ PlanAt K .keep pv H := by
      cases pr with
      | cons a r =>
        cases r with
        | cons b r => cases r; exact ⟨_, _, rfl, a, b⟩
    refine ⟨_, rfl, .str "why", .str "has", .str _, .str _, str_shaped (by decide +kernel), str_shaped (by decide +kernel), false, congrArg V.bl ((str_eqv _ _).trans (by show decide (("why" : Str) = "has") = false; decide)), iteF ?_⟩
    refine ⟨_, rfl, .str "why", .str "count", .str _, .str _, str_shaped (by decide +kernel), str_shaped (by decide +kernel), false, congrArg V.bl ((str_eqv _ _).trans (by show decide (("why" : Str) = "count") = false; decide)), iteF ?_⟩
    refine ⟨_, rfl, .str "why", .str "show", .str _, .str _, str_shaped (by decide +kernel), str_shaped (by decide +kernel), false, congrArg V.bl ((str_eqv _ _).trans (by show decide (("why" : Str) = "show") = false; decide)), iteF ?_⟩
    refine ⟨_, rfl, .str "why", .str "why", .str _, .str _, str_shaped (by decide +kernel), str_shaped (by decide +kernel), true, congrArg V.bl ((str_eqv _ _).trans (by show decide (("why" : Str) = "why") = true; decide)), iteT ?_⟩
    refine ⟨_, rfl, .inl ⟨l, [u0, pv], 1, pv, rfl, rfl, SqL.of el, atI_nat (j := 1) rfl, _, rfl, _, rfl, .inl ⟨l, [u0, pv], 0, u0, rfl, rfl, SqL.of el, atI_nat (j := 0) rfl, ?_⟩⟩⟩
    refine ⟨[plV K .keep, .im (shD s), .im (cD c)], _, .cons hpv (.cons iv (.cons hu0 .nil)), ⟨s, c, rfl, rfl⟩, fun v H1 g1 hv1 => ?_⟩
    obtain ⟨a, u, rfl, ea, hu⟩ := hv1
    refine ⟨a, _, rfl, SqT.of ea, rfl, _, _, rfl, _, _, rfl, rfl, ?_⟩
    refine ⟨_, rfl, by show 1 ≤ sizeLine; rw [sizeLine_eq]; decide, fun p hp => ⟨_, rfl, ?_⟩⟩
    have g2 := Gr.new (.lst [V.str (if hasB s c = true then "piece" else "bar")]) hp
    obtain ⟨b, rfl, eb⟩ := hu
    exact ⟨[.ro (([if hasB s c = true then "piece" else "bar"] : List Str).map .str), pcV K], .im (.str (Txt.join " " [if hasB s c = true then "piece" else "bar", numT 0, numT 0])), .cons ⟨p, _, rfl, upd_same, .cons (.str _) .nil⟩ (.cons ⟨b, rfl, g2 _ _ eb⟩ .nil), ⟨_, rfl, by split <;> decide, rfl⟩, fun v H2 g3 i => q v H2 ((g1.trans g2).trans g3) i⟩
theorem O_answered (T : Tx K mg) : Ok P w K mg base CX0 9 d_answered ["shape", "word", "values"] (spAn K) := by
  obtain ⟨fd, F⟩ := T.fn 68 d_answered rfl
  exact ok_v (t := t_answered K P w) F sc_answered (fun _ _ _ _ _ _ us hl => match us, hl with | [_, _, _], _ => rfl) len_An (fun cdv A outer s H E hr => pss_cons (ps_if (pt_cmpR (op_eqD hr.units) (pv 1) (pe_str) (nomark _)) (pss_one (ps_ret (pe_ix ix_seq (pe_lst (pa_cons (pe_str) (pa_cons (pe_str) (pa_nil)))) (pe_callTy r_int rfl (T.free 75 rfl) boot_int (pa_cons (pe_own (O_has T) (hr.mono (by first | decide | omega)) rfl (T.glo 3 rfl) pass0 (pa_cons (pv 0) (pa_cons (pe_ix ix_seq (pv 2) (pe_int) (fun _ _ => rfl)) (pa_nil)))) (pa_nil))) (fun _ _ => rfl)))) (pss_nil)) (pss_cons (ps_if (pt_cmpR (op_eqD hr.units) (pv 1) (pe_str) (nomark _)) (pss_one (ps_ret (pe_own (O_told_count T) (hr.mono (by first | decide | omega)) rfl (T.glo 43 rfl) pass0 (pa_cons (pv 0) (pa_nil))))) (pss_nil)) (pss_cons (ps_if (pt_cmpR (op_eqD hr.units) (pv 1) (pe_str) (nomark _)) (pss_one (ps_ret (pe_own (O_drawn T) (hr.mono (by first | decide | omega)) rfl (T.glo 28 rfl) pass0 (pa_cons (pv 0) (pa_cons (pe_ix ix_seq (pv 2) (pe_int) (fun _ _ => rfl)) (pa_cons (pe_ix ix_seq (pv 2) (pe_int) (fun _ _ => rfl)) (pa_cons (pe_ix ix_seq (pv 2) (pe_int) (fun _ _ => rfl)) (pa_cons (pe_ix ix_seq (pv 2) (pe_int) (fun _ _ => rfl)) (pa_nil))))))))) (pss_nil)) (pss_cons (ps_if (pt_cmpR (op_eqD hr.units) (pv 1) (pe_str) (nomark _)) (pss_cons (ps_asg (pe_own (O_answer T) (hr.mono (by first | decide | omega)) rfl (T.glo 26 rfl) pass0 (pa_cons (pe_ix ix_seq (pv 2) (pe_int) (fun _ _ => rfl)) (pa_cons (pv 0) (pa_cons (pe_ix ix_seq (pv 2) (pe_int) (fun _ _ => rfl)) (pa_nil))))) (pg_tup rfl (pgs_cons (pg_name (i := 3) sc_answered.nd rfl (by first | exact Or.inl rfl | exact Or.inr rfl)) (pgs_cons (pg_name (i := 4) sc_answered.nd rfl (by first | exact Or.inl rfl | exact Or.inr rfl)) (pgs_nil))))) (pss_one (ps_ret (pe_own (O_told_steps_m T) (hr.mono (by first | decide | omega)) rfl (T.glo 42 rfl) pass0 (pa_cons (pe_lst (pa_cons (pv 3) (pa_nil))) (pa_cons (pv 4) (pa_nil))))))) (pss_nil)) (pss_never))))) (run_answered T)
end K91
/-! ==== K25 -/
set_option maxRecDepth 100000
set_option maxHeartbeats 4000000
namespace K91
open PySem PySem.Spec PyProof.Rows L2 SG DL
variable {P : Program} {w : World} {K : PySem.W.Frag} {mg : Str → Option Value} {base : Heap}
def dF (nv : V) (pl : Addr) : List (Str × V) := [("now", nv), ("past", .ref pl)]
theorem dF_now {nv : V} {pl : Addr} : (dF nv pl).lookup ("now" : Str) = some nv := lk_here
theorem dF_past {nv : V} {pl : Addr} : (dF nv pl).lookup ("past" : Str) = some (.ref pl) := (lk_past (by decide)).trans lk_here
theorem dF_put {nv v : V} {pl : Addr} : putF "now" v (dF nv pl) = dF v pl := put_here
theorem dF_no {nv : V} {pl : Addr} {m : Str} (h1 : (m == ("now" : Str)) = false) (h2 : (m == ("past" : Str)) = false) : (dF nv pl).lookup m = none := (lk_past h1).trans ((lk_past h2).trans rfl)
/-- a desk at a: its shape, its past -/
structure Dk (K : PySem.W.Frag) (now : Shp) (past : List Shp) (a dx pl : Addr) (H : Hp) : Prop where
  ins : ∃ nv, H a = some (.ins (He.ga K "Desk") dx (dF nv pl)) ∧ Im H nv (shD now)
  lst : ∃ vs, H pl = some (.lst vs) ∧ Ims H vs (past.map shD)
theorem Dk.gr {now : Shp} {past : List Shp} {a dx pl : Addr} {H H' : Hp} (h : Dk K now past a dx pl H) (g : Gr H H') : Dk K now past a dx pl H' := by
  obtain ⟨⟨nv, h1, h2⟩, vs, h3, h4⟩ := h
  exact ⟨⟨nv, g _ _ h1, h2.kp g.kp⟩, vs, g _ _ h3, h4.kp g.kp⟩
/-- all but the desk's own two objects is as before -/
def SameD (a pl : Addr) (H H' : Hp) : Prop := ∀ b o, H b = some o → b ≠ a → b ≠ pl → H' b = some o
theorem SameD.gr {a pl : Addr} {H H' : Hp} (g : Gr H H') : SameD a pl H H' := fun b o e _ _ => g b o e
theorem SameD.trans {a pl : Addr} {H H1 H2 : Hp} (h : SameD a pl H H1) (k : SameD a pl H1 H2) : SameD a pl H H2 := fun b o e n m => k b o (h b o e n m) n m
theorem SameD.updA (a pl : Addr) (H : Hp) (o : HO) : SameD a pl H (upd H a o) := fun b u e n _ => by rw [upd_ne n]; exact e
theorem SameD.updP (a pl : Addr) (H : Hp) (o : HO) : SameD a pl H (upd H pl o) := fun b u e _ m => by rw [upd_ne m]; exact e
def QL : List Str := ["has", "count", "show", "why", "same", "parts", "holes"]
/-- what the desk says to a row -/
inductive SayR : Shp → List Shp → RowK → Str → Shp → List Shp → Prop
  | back {now p : Shp} {past : List Shp} : SayR now (past ++ [p]) (.bare "back") "ok" p past
  | deeds {now : Shp} {past : List Shp} : past.length < 100000 → SayR now past (.bare "deeds") (numT past.length) now past
  | ask {now : Shp} {past : List Shp} {r : RowK} : anOk r → now.1.length < 100000 → SayR now past r (anF now r) now past
  | deed {now : Shp} {past : List Shp} {r : RowK} {n : Nat} : chOk n now r → n ≤ 2 → now.1.length ≤ 200 → (chF now r).1.length ≤ 400 → (chF now r).1.all farC = true → past.length < 1000 → SayR now past r "ok" (chF now r) (past ++ [now])
def spDI (K : PySem.W.Frag) : Sp := fun vs H Q _ => ∃ (p dx : Addr), vs = [.ref p] ∧ H p = some (.ins (He.ga K "Desk") dx []) ∧ ∀ H' pl, (∀ b o, H b = some o → b ≠ p → H' b = some o) → H pl = none → Dk K ([], false) [] p dx pl H' → Q .non H'
def spDS (K : PySem.W.Frag) : Sp := fun vs H Q _ => ∃ (a dx pl : Addr) (now : Shp) (past : List Shp), vs = [.ref a] ∧ Dk K now past a dx pl H ∧ ∀ v, Im H v (shD now) → Q v H
def spTB (K : PySem.W.Frag) : Sp := fun vs H Q _ => ∃ (a dx pl : Addr) (now p : Shp) (past : List Shp), vs = [.ref a] ∧ Dk K now (past ++ [p]) a dx pl H ∧ past.length < 100000 ∧ ∀ H', SameD a pl H H' → Dk K p past a dx pl H' → Q (.str "ok") H'
theorem past_shaped : ∀ l : List Shp, SeqAt.shaped (.list (l.map shD)) = true := by
  have a : ∀ l : List Shp, PyData.canLayAll0 (l.map shD) = true := fun l => by
    induction l with
    | nil => simp [PyData.canLayAll0]
    | cons x l ih =>
      have := shD_shaped x
      unfold SeqAt.shaped at this
      rw [Bool.and_eq_true] at this
      rw [List.map_cons, PyData.canLayAll0, this.1, ih] <;> rfl
  have b : ∀ l : List Shp, PyData.depthAll (l.map shD) ≤ 3 := fun l => by
    induction l with
    | nil => simp [PyData.depthAll]
    | cons x l ih =>
      have e : PyData.depth (shD x) ≤ 3 := by
        have := cDs_depth x.1
        simp only [shD, csD, PyData.depth, PyData.depthAll]
        omega
      rw [List.map_cons, PyData.depthAll]
      omega
  intro l
  have := b l
  simp only [SeqAt.shaped, PyData.canLay0, a l, PyData.depth, Bool.true_and]
  exact decide_eq_true (by omega)

/-! ### Desk.__init__ -/
theorem sc_Desk_init : FnScope ["self"] ["self"] (defScope s_Desk_init) := ⟨rfl, rfl, rfl, by decide +kernel, rfl, by decide +kernel, by decide +kernel⟩
def t_Desk_init (K : PySem.W.Frag) (P : Program) (w : World) : TS := tSeq (sFld K (tVar 0) (tTup (tCons (tTup (tNil)) (tCons (tC (.bl false)) (tNil)))) "now") (sFld K (tVar 0) (tLst (tNil)) "past")
theorem len_Desk_init : ∀ vs H Q E, spDI K vs H Q E → vs.length = 1 := by
  rintro vs H Q E ⟨_, _, rfl, _⟩
  rfl
theorem run_Desk_init (T : Tx K mg) (vs : List V) (H : Hp) (Q : VK) (E : XK) (h : spDI K vs H Q E) : t_Desk_init K P w { nx := fun _ H' => Q .non H', rt := Q } (L2.start ["self"] vs) H := by
  obtain ⟨p, dx, rfl, hp, q⟩ := h
  refine ⟨by show 0 ≤ sizeLine; exact Nat.zero_le _, fun t0 h0 => ⟨by show 2 ≤ sizeLine; rw [sizeLine_eq]; decide, fun t1 h1 => ⟨_, rfl, p, _, dx, [], rfl, ?_, (T.cls 113 (x := "Desk") rfl), (T.noat 134 (x := "Desk") (f := "now") rfl), by show 0 < 1000; decide, by show 0 ≤ sizeLine; exact Nat.zero_le _, fun pl hpl => ⟨_, rfl, p, _, dx, putF "now" (.ref t1) [], rfl, ?_, (T.cls 113 (x := "Desk") rfl), (T.noat 135 (x := "Desk") (f := "past") rfl), by show 1 < 1000; decide, ?_⟩⟩⟩⟩
  · have e0 : p ≠ t0 := fun z => by rw [← z, hp] at h0; cases h0
    have e1 : p ≠ t1 := fun z => by rw [← z, upd_ne e0, hp] at h1; cases h1
    rw [upd_ne e1, upd_ne e0]
    exact hp
  · have e : p ≠ pl := fun z => by rw [← z, upd_same] at hpl; cases hpl
    rw [upd_ne e]
    exact upd_same
  · have e0 : p ≠ t0 := fun z => by rw [← z, hp] at h0; cases h0
    have e1 : p ≠ t1 := fun z => by rw [← z, upd_ne e0, hp] at h1; cases h1
    have e2 : p ≠ pl := fun z => by rw [← z, upd_same] at hpl; cases hpl
    have hpl0 : H pl = none := by
      rw [upd_ne (Ne.symm e2)] at hpl
      by_cases z : pl = t1
      · rw [z, upd_same] at hpl; cases hpl
      · rw [upd_ne z] at hpl
        by_cases z2 : pl = t0
        · rw [z2, upd_same] at hpl; cases hpl
        · rw [upd_ne z2] at hpl; exact hpl
    have t10 : t1 ≠ t0 := fun z => by rw [z, upd_same] at h1; cases h1
    have pt1 : pl ≠ t1 := fun z => by
      rw [z, upd_ne (Ne.symm e1), upd_same] at hpl
      cases hpl
    have pt0 : pl ≠ t0 := fun z => by
      rw [z, upd_ne (Ne.symm e0), upd_ne (Ne.symm t10), upd_same] at hpl
      cases hpl
    refine q _ pl (fun b o e n => ?_) hpl0 ⟨⟨.ref t1, ?_, .tup (vs := [.ref t0, .bl false]) ?_ (.cons (.tup (vs := []) ?_ .nil) (.cons (.bl false) .nil))⟩, [], ?_, .nil⟩
    · rw [upd_ne n, upd_ne (fun z => by rw [z, hpl0] at e; cases e), upd_ne n, upd_ne (fun z => by
        rw [z] at e
        rw [upd_ne t10, e] at h1
        cases h1), upd_ne (fun z => by rw [z, h0] at e; cases e)]
      exact e
    · rw [upd_same, put_nil, put_past (by decide), put_nil]
      rfl
    · rw [upd_ne (Ne.symm e1), upd_ne (Ne.symm pt1), upd_ne (Ne.symm e1), upd_same]
    · rw [upd_ne (Ne.symm e0), upd_ne (Ne.symm pt0), upd_ne (Ne.symm e0), upd_ne (Ne.symm t10), upd_same]
    · rw [upd_ne (Ne.symm e2), upd_same]
theorem O_Desk_init (T : Tx K mg) : Ok P w K mg base CX0 1 d_Desk_init ["self"] (spDI K) := by
  obtain ⟨fd, F⟩ := T.fn 69 d_Desk_init rfl
  exact ok_v (t := t_Desk_init K P w) F sc_Desk_init (fun _ _ _ _ _ _ us hl => match us, hl with | [_], _ => rfl) len_Desk_init (fun cdv A outer s H E hr => pss_cons (ps_fld (pv 0) (pe_tup (pa_cons (pe_tup (pa_nil)) (pa_cons (pe_bl) (pa_nil)))) rfl) (pss_one (ps_fld (pv 0) (pe_lst (pa_nil)) rfl))) (run_Desk_init T)

/-! ### Desk.shape -/
theorem sc_Desk_shape : FnScope ["self"] ["self"] (defScope s_Desk_shape) := ⟨rfl, rfl, rfl, by decide +kernel, rfl, by decide +kernel, by decide +kernel⟩
def t_Desk_shape (K : PySem.W.Frag) (P : Program) (w : World) : TS := tRet (tFld K (tVar 0) "now")
theorem len_Desk_shape : ∀ vs H Q E, spDS K vs H Q E → vs.length = 1 := by
  rintro vs H Q E ⟨_, _, _, _, _, rfl, _⟩
  rfl
theorem run_Desk_shape (T : Tx K mg) (vs : List V) (H : Hp) (Q : VK) (E : XK) (h : spDS K vs H Q E) : t_Desk_shape K P w { nx := fun _ H' => Q .non H', rt := Q } (L2.start ["self"] vs) H := by
  obtain ⟨a, dx, pl, now, past, rfl, ⟨⟨nv, hA, iv⟩, _⟩, q⟩ := h
  exact ⟨_, rfl, a, _, dx, _, _, rfl, hA, (T.cls 113 (x := "Desk") rfl), (T.noat 134 (x := "Desk") (f := "now") rfl), dF_now, q nv iv⟩
theorem O_Desk_shape (T : Tx K mg) : Ok P w K mg base CX0 1 d_Desk_shape ["self"] (spDS K) := by
  obtain ⟨fd, F⟩ := T.fn 70 d_Desk_shape rfl
  exact ok_v (t := t_Desk_shape K P w) F sc_Desk_shape (fun _ _ _ _ _ _ us hl => match us, hl with | [_], _ => rfl) len_Desk_shape (fun cdv A outer s H E hr => pss_one (ps_ret (pe_fld (pv 0) rfl))) (run_Desk_shape T)

/-! ### Desk.taken_back -/
theorem sc_Desk_taken_back : FnScope ["self"] ["self"] (defScope s_Desk_taken_back) := ⟨rfl, rfl, rfl, by decide +kernel, rfl, by decide +kernel, by decide +kernel⟩
def t_Desk_taken_back (K : PySem.W.Frag) (P : Program) (w : World) : TS := tSeq (tIfS (tTest (tOp (rEqD K) (tFld K (tVar 0) "past") (tLst (tNil)))) (tNever) (tNext)) (tSeq (sFld K (tVar 0) (tBM0 K "list" rPop (tFld K (tVar 0) "past")) "now") (tRet (tC (.str "ok"))))
theorem len_Desk_taken_back : ∀ vs H Q E, spTB K vs H Q E → vs.length = 1 := by
  rintro vs H Q E ⟨_, _, _, _, _, _, rfl, _⟩
  rfl
theorem run_Desk_taken_back (T : Tx K mg) (vs : List V) (H : Hp) (Q : VK) (E : XK) (h : spTB K vs H Q E) : t_Desk_taken_back K P w { nx := fun _ H' => Q .non H', rt := Q } (L2.start ["self"] vs) H := by
  obtain ⟨a, dx, pl, now, p, past, rfl, ⟨⟨nv, hA, iv⟩, vs, hP, ip⟩, hl, q⟩ := h
  have ap : a ≠ pl := fun z => by rw [z, hP] at hA; cases hA
  rw [List.map_append] at ip
  obtain ⟨us, u, rfl, ius, iu⟩ := ims_last (d := shD p) ip
  refine ⟨_, rfl, a, _, dx, _, _, rfl, hA, (T.cls 113 (x := "Desk") rfl), (T.noat 135 (x := "Desk") (f := "past") rfl), dF_past, by show 0 ≤ sizeLine; exact Nat.zero_le _, fun t0 h0 => ?_⟩
  have g0 := Gr.new (.lst []) h0
  have sh := past_shaped (past ++ [p])
  rw [List.map_append] at sh
  refine ⟨.list (past.map shD ++ [shD p]), .list [], .lst (SqL.of (g0 _ _ hP)) (Ims.dp ((ius.kp g0.kp).app (.cons (iu.kp g0.kp) .nil))), .lst (SqL.of upd_same) .nil, sh, by decide, false, congrArg V.bl ((list_nil_eqv _).trans (by cases past.map shD <;> rfl)), iteF ?_⟩
  refine ⟨_, rfl, a, _, dx, _, _, rfl, g0 _ _ hA, (T.cls 113 (x := "Desk") rfl), (T.noat 135 (x := "Desk") (f := "past") rfl), dF_past, .inl ⟨rfl, _, SqL.of (g0 _ _ hP)⟩, pl, us ++ [u], u, rfl, rfl, g0 _ _ hP, ?_, ?_⟩
  · rw [List.length_append, List.getElem?_append_right (by show us.length ≤ us.length + 1 - 1; omega)]
    show [u][us.length + 1 - 1 - us.length]? = _
    rw [show us.length + 1 - 1 - us.length = 0 by omega]
    rfl
  rw [List.dropLast_concat]
  have k1 : Kp (upd H t0 (.lst [])) (upd (upd H t0 (.lst [])) pl (.lst us)) := .upd (g0 _ _ hP) rfl
  refine ⟨_, rfl, a, _, dx, _, rfl, k1 _ _ (g0 _ _ hA) rfl, (T.cls 113 (x := "Desk") rfl), (T.noat 134 (x := "Desk") (f := "now") rfl), by show 2 < 1000; decide, ?_⟩
  rw [dF_put]
  have tup : ∀ b vs, upd (upd H t0 (.lst [])) pl (.lst us) b = some (.tup vs) → upd (upd (upd H t0 (.lst [])) pl (.lst us)) a (.ins (He.ga K "Desk") dx (dF u pl)) b = some (.tup vs) := fun b vs e => by
    rw [upd_ne (fun z => by rw [z, k1 _ _ (g0 _ _ hA) rfl] at e; cases e)]
    exact e
  exact q _ (((SameD.gr g0).trans (SameD.updP _ _ _ _)).trans (SameD.updA _ _ _ _)) ⟨⟨u, upd_same, im_sb tup ((iu.kp g0.kp).kp k1)⟩, us, (upd_ne (Ne.symm ap)).trans upd_same, ims_sb tup ((ius.kp g0.kp).kp k1)⟩
theorem O_Desk_taken_back (T : Tx K mg) : Ok P w K mg base CX0 1 d_Desk_taken_back ["self"] (spTB K) := by
  obtain ⟨fd, F⟩ := T.fn 71 d_Desk_taken_back rfl
  exact ok_v (t := t_Desk_taken_back K P w) F sc_Desk_taken_back (fun _ _ _ _ _ _ us hl => match us, hl with | [_], _ => rfl) len_Desk_taken_back (fun cdv A outer s H E hr => pss_cons (ps_if (pt_cmpR (op_eqD hr.units) (pe_fld (pv 0) rfl) (pe_lst (pa_nil)) (nomark _)) (pss_one (ps_never)) (pss_nil)) (pss_cons (ps_fld (pv 0) (pe_bm0 PySem.F.plainAttrs_list PySem.F.slot_list_pop PySem.F.type_list_pop mt_pop (pe_fld (pv 0) rfl)) rfl) (pss_one (ps_ret (pe_str))))) (run_Desk_taken_back T)
end K91
/-! ==== K26 -/
set_option maxRecDepth 100000
set_option maxHeartbeats 4000000
namespace K91
open PySem PySem.Spec PyProof.Rows L2 SG DL
variable {P : Program} {w : World} {K : PySem.W.Frag} {mg : Str → Option Value} {base : Heap}
def spSay (K : PySem.W.Frag) : Sp := fun vs H Q _ => ∃ (a dx pl : Addr) (now now' : Shp) (past past' : List Shp) (r : RowK) (ans : Str), vs = [.ref a, .str (rowT r)] ∧ Dk K now past a dx pl H ∧ rowOk 2 r ∧ past.length < 1000 ∧ SayR now past r ans now' past' ∧ ∀ H', SameD a pl H H' → Dk K now' past' a dx pl H' → Q (.str ans) H'
theorem ask_tags {r : RowK} (h : anOk r) : PyData.strOk (rowTag r) = true ∧ decide (rowTag r = "back") = false ∧ decide (rowTag r = "deeds") = false ∧ decide (rowTag r ∈ QL) = true := by
  have a : ∀ x ∈ (["has", "count", "show", "why"] : List Str), PyData.strOk x = true ∧ decide (x = "back") = false ∧ decide (x = "deeds") = false ∧ decide (x ∈ QL) = true := by decide +kernel
  cases r with
  | bare x => have h : x = "count" := h; subst h; exact a "count" (by decide)
  | cell x c => have h : x = "has" := h; subst h; exact a "has" (by decide)
  | pic c => exact a "show" (by decide)
  | why c => exact a "why" (by decide)
  | turn t => exact h.elim
  | plan t => exact h.elim
theorem deed_tags {n : Nat} {s : Shp} {r : RowK} (h : chOk n s r) : PyData.strOk (rowTag r) = true ∧ decide (rowTag r = "back") = false ∧ decide (rowTag r = "deeds") = false ∧ decide (rowTag r ∈ QL) = false := by
  have a : ∀ x ∈ (["put", "take", "move", "turn", "out", "do"] : List Str), PyData.strOk x = true ∧ decide (x = "back") = false ∧ decide (x = "deeds") = false ∧ decide (x ∈ QL) = false := by decide +kernel
  cases r with
  | bare x => have h : x = "out" := h; subst h; exact a "out" (by decide)
  | cell x c =>
    rcases h with rfl | rfl | rfl
    · exact a "put" (by decide)
    · exact a "take" (by decide)
    · exact a "move" (by decide)
  | turn t => exact a "turn" (by decide)
  | plan t => exact a "do" (by decide)
  | pic c => exact h.elim
  | why c => exact h.elim
theorem ch_mono {n m : Nat} (h : n ≤ m) {s : Shp} {r : RowK} (c : chOk n s r) : chOk m s r := by
  cases r with
  | plan t => exact ⟨Nat.le_trans c.1 h, c.2⟩
  | bare x => exact c
  | cell x d => exact c
  | turn t => exact c
  | pic d => exact c
  | why d => exact c

/-! ### Desk.say -/
theorem sc_Desk_say : FnScope ["self", "row", "word", "values", "made"] ["self", "row"] (defScope s_Desk_say) := ⟨rfl, rfl, rfl, by decide +kernel, rfl, by decide +kernel, by decide +kernel⟩
def t_Desk_say (K : PySem.W.Frag) (P : Program) (w : World) : TS := tSeq (tIfS (tNot (tB (tCB (rIsi K) (tCons (tVar 1) (tCons (tC (.ty "str")) (tNil)))))) (tNever) (tNext)) (tSeq (tAsg (tCall (spP (R_read_row K 2)) [] E0 (tCons (tVar 1) (tNil))) (gTup K 2 (gCons (gName 2) (gCons (gName 3) (gNil))))) (tSeq (tIfS (tTest (tOp (rEqD K) (tVar 2) (tC (.str "back")))) (tRet (tMeth (He.ga K "Desk") "taken_back" (spTB K) [] E0 (tVar 0) tNil)) (tNext)) (tSeq (tIfS (tTest (tOp (rEqD K) (tVar 2) (tC (.str "deeds")))) (tRet (tCB (xStr) (tCons (tCB (xLen K) (tCons (tFld K (tVar 0) "past") (tNil))) (tNil)))) (tNext)) (tSeq (tIfS (tTest (tOp (xIn K false) (tVar 2) (tC (.ref (He.ga K "QUESTIONS"))))) (tRet (tCall (spAn K) [] E0 (tCons (tFld K (tVar 0) "now") (tCons (tVar 2) (tCons (tVar 3) (tNil)))))) (tNext)) (tSeq (tAsg (tCall (spD R_let_by) [] E0 (tCons (tCall (spCh K 2) [] E0 (tCons (tFld K (tVar 0) "now") (tCons (tVar 2) (tCons (tVar 3) (tNil))))) (tNil))) (gName 4)) (tSeq (tDrop (tBM K "list" (rAppend) (tFld K (tVar 0) "past") (tCons (tFld K (tVar 0) "now") (tNil)))) (tSeq (sFld K (tVar 0) (tVar 4) "now") (tRet (tC (.str "ok"))))))))))
theorem len_Desk_say : ∀ vs H Q E, spSay K vs H Q E → vs.length = 2 := by
  rintro vs H Q E ⟨_, _, _, _, _, _, _, _, _, rfl, _⟩
  rfl
theorem run_Desk_say (T : Tx K mg) (vs : List V) (H : Hp) (Q : VK) (E : XK) (h : spSay K vs H Q E) : t_Desk_say K P w { nx := fun _ H' => Q .non H', rt := Q } (L2.start ["self", "row", "word", "values", "made"] vs) H := by
  obtain ⟨a, dx, pl, now, now', past, past', r, ans, rfl, dk, hr, hlp, sr, q⟩ := h
  refine ⟨_, rfl, .str _, .ty "str", .type "str", .type "str", true, rfl, .ty _, .base (.str _), kit_ty (by decide +kernel), true, rfl, iteF ?_⟩
  refine ⟨_, rfl, [.im (.str (rowT r))], _, .cons (.str _) .nil, ⟨r, rfl, hr, rfl⟩, fun v H1 g1 hv1 => ?_⟩
  obtain ⟨p, w1, lv, rfl, ep, i1, hlv⟩ := hv1
  cases Im.str_v i1
  refine ⟨p, _, rfl, SqT.of ep, rfl, _, _, rfl, _, _, rfl, rfl, ?_⟩
  have dk1 := dk.gr g1
  obtain ⟨⟨nv, hA, iv⟩, vs, hP, ip⟩ := id dk1
  have ap : a ≠ pl := fun z => by rw [z, hP] at hA; cases hA
  cases sr with
  | back =>
    refine ⟨_, rfl, .str "back", .str "back", .str _, .str _, str_shaped (by decide +kernel), str_shaped (by decide +kernel), true, congrArg V.bl ((str_eqv _ _).trans (decide_eq_true rfl)), iteT ?_⟩
    exact ⟨_, rfl, a, dx, _, rfl, hA, dF_no (by decide) (by decide), a, dx, pl, _, _, _, rfl, dk1, by rw [List.length_append] at hlp; omega, fun H' sm dk' => q H' ((SameD.gr g1).trans sm) dk'⟩
  | deeds hl =>
    refine ⟨_, rfl, .str "deeds", .str "back", .str _, .str _, str_shaped (by decide +kernel), str_shaped (by decide +kernel), false, congrArg V.bl ((str_eqv _ _).trans (by decide)), iteF ?_⟩
    refine ⟨_, rfl, .str "deeds", .str "deeds", .str _, .str _, str_shaped (by decide +kernel), str_shaped (by decide +kernel), true, congrArg V.bl ((str_eqv _ _).trans (decide_eq_true rfl)), iteT ?_⟩
    have lv' : vs.length = past.length := by rw [ip.len, List.length_map]
    refine ⟨_, rfl, a, _, dx, _, _, rfl, hA, (T.cls 113 (x := "Desk") rfl), (T.noat 135 (x := "Desk") (f := "past") rfl), dF_past, .ref pl, vs.length, rfl, .inl ⟨vs, SqL.of hP, rfl⟩, (vs.length : Int), rfl, ?_, ?_⟩
    · rw [lv']
      exact small_log (show past.length < 10 ^ 14 by omega)
    · rw [lv']
      exact q H1 (SameD.gr g1) dk1
  | ask han hln =>
    obtain ⟨h0, hb, hd, hq⟩ := ask_tags han
    refine ⟨_, rfl, .str (rowTag r), .str "back", .str _, .str _, str_shaped h0, str_shaped (by decide +kernel), false, congrArg V.bl ((str_eqv _ _).trans hb), iteF ?_⟩
    refine ⟨_, rfl, .str (rowTag r), .str "deeds", .str _, .str _, str_shaped h0, str_shaped (by decide +kernel), false, congrArg V.bl ((str_eqv _ _).trans hd), iteF ?_⟩
    refine ⟨_, rfl, .str (rowTag r), QL.map .str, .str _, .tup (T.tup 3 (x := "QUESTIONS") rfl H1) (dpAll_strs QL), str_shaped h0, strs_shaped (by decide +kernel), true, congrArg V.bl ((any_str QL (rowTag r)).trans hq), iteT ?_⟩
    refine ⟨_, rfl, a, _, dx, _, _, rfl, hA, (T.cls 113 (x := "Desk") rfl), (T.noat 134 (x := "Desk") (f := "now") rfl), dF_now, _, rfl, _, rfl, nv, lv, now, r, rfl, iv, hlv, hln, han, fun v H2 g2 i => ?_⟩
    cases Im.str_v i
    exact q H2 ((SameD.gr g1).trans (SameD.gr g2)) (dk1.gr g2)
  | deed hch hn h200 h400 hfar hl =>
    obtain ⟨h0, hb, hd, hq⟩ := deed_tags hch
    refine ⟨_, rfl, .str (rowTag r), .str "back", .str _, .str _, str_shaped h0, str_shaped (by decide +kernel), false, congrArg V.bl ((str_eqv _ _).trans hb), iteF ?_⟩
    refine ⟨_, rfl, .str (rowTag r), .str "deeds", .str _, .str _, str_shaped h0, str_shaped (by decide +kernel), false, congrArg V.bl ((str_eqv _ _).trans hd), iteF ?_⟩
    refine ⟨_, rfl, .str (rowTag r), QL.map .str, .str _, .tup (T.tup 3 (x := "QUESTIONS") rfl H1) (dpAll_strs QL), str_shaped h0, strs_shaped (by decide +kernel), false, congrArg V.bl ((any_str QL (rowTag r)).trans hq), iteF ?_⟩
    refine ⟨_, rfl, a, _, dx, _, _, rfl, hA, (T.cls 113 (x := "Desk") rfl), (T.noat 134 (x := "Desk") (f := "now") rfl), dF_now, _, rfl, _, rfl, nv, lv, now, r, rfl, iv, hlv, h200, ch_mono hn hch, fun v H2 g2 i => ?_⟩
    refine ⟨[.im (shD (chF now r))], .im (shD (chF now r)), .cons i .nil, ⟨chF now r, rfl, h400, hfar, rfl⟩, fun v' H3 g3 i3 => ?_⟩
    have g13 := g2.trans g3
    have lvl : vs.length < 1000 := by rw [ip.len, List.length_map]; exact hl
    refine ⟨_, rfl, a, _, dx, _, _, rfl, (g13 _ _ hA), (T.cls 113 (x := "Desk") rfl), (T.noat 135 (x := "Desk") (f := "past") rfl), dF_past, .inl ⟨rfl, vs, SqL.of (g13 _ _ hP)⟩, _, rfl, a, _, dx, _, _, rfl, (g13 _ _ hA), (T.cls 113 (x := "Desk") rfl), (T.noat 134 (x := "Desk") (f := "now") rfl), dF_now, pl, vs, nv, rfl, rfl, g13 _ _ hP, by rw [sizeLine_eq]; omega, ?_⟩
    have kp : Kp H3 (upd H3 pl (.lst (vs ++ [nv]))) := .upd (g13 _ _ hP) rfl
    refine ⟨_, rfl, _, rfl, a, _, dx, _, rfl, kp _ _ (g13 _ _ hA) rfl, (T.cls 113 (x := "Desk") rfl), (T.noat 134 (x := "Desk") (f := "now") rfl), by show 2 < 1000; decide, ?_⟩
    rw [dF_put]
    have tup : ∀ b us, upd H3 pl (.lst (vs ++ [nv])) b = some (.tup us) → upd (upd H3 pl (.lst (vs ++ [nv]))) a (.ins (He.ga K "Desk") dx (dF v' pl)) b = some (.tup us) := fun b us e => by
      rw [upd_ne (fun z => by rw [z, kp _ _ (g13 _ _ hA) rfl] at e; cases e)]
      exact e
    refine q _ ((((SameD.gr g1).trans (SameD.gr g13)).trans (SameD.updP _ _ _ _)).trans (SameD.updA _ _ _ _)) ⟨⟨v', upd_same, im_sb tup (i3.kp kp)⟩, vs ++ [nv], (upd_ne (Ne.symm ap)).trans upd_same, ?_⟩
    rw [List.map_append]
    exact ims_sb tup (((ip.kp g13.kp).kp kp).app (.cons ((iv.kp g13.kp).kp kp) .nil))
theorem O_Desk_say (T : Tx K mg) : Ok P w K mg base CX0 18 d_Desk_say ["self", "row"] (spSay K) := by
  obtain ⟨fd, F⟩ := T.fn 72 d_Desk_say rfl
  exact ok_v (t := t_Desk_say K P w) F sc_Desk_say (fun _ _ _ _ _ _ us hl => match us, hl with | [_, _], _ => rfl) len_Desk_say (fun cdv A outer s H E hr => pss_cons (ps_if (pt_not (pt_val (pe_callB call_isi rfl (T.free 64 rfl) boot_isinstance (pa_cons (pv 1) (pa_cons (pe_bltn rfl (T.free 74 rfl) boot_str (by rfl)) (pa_nil)))))) (pss_one (ps_never)) (pss_nil)) (pss_cons (ps_asg (pe_own (O_read_row T 2) (hr.mono (by first | decide | omega)) rfl (T.glo 37 rfl) pass0 (pa_cons (pv 1) (pa_nil))) (pg_tup rfl (pgs_cons (pg_name (i := 2) sc_Desk_say.nd rfl (by first | exact Or.inl rfl | exact Or.inr rfl)) (pgs_cons (pg_name (i := 3) sc_Desk_say.nd rfl (by first | exact Or.inl rfl | exact Or.inr rfl)) (pgs_nil))))) (pss_cons (ps_if (pt_cmpR (op_eqD hr.units) (pv 2) (pe_str) (nomark _)) (pss_one (ps_ret (pe_methO0 (d := d_Desk_taken_back) (pv 0) (T.cls 113 (x := "Desk") rfl) (T.meth 176 (x := "Desk") (m := "taken_back") rfl) (O_Desk_taken_back T) (hr.mono (by first | decide | omega))))) (pss_nil)) (pss_cons (ps_if (pt_cmpR (op_eqD hr.units) (pv 2) (pe_str) (nomark _)) (pss_one (ps_ret (pe_callTy r_str rfl (T.free 74 rfl) boot_str (pa_cons (pe_callB r_len rfl (T.free 63 rfl) boot_len (pa_cons (pe_fld (pv 0) rfl) (pa_nil))) (pa_nil))))) (pss_nil)) (pss_cons (ps_if (pt_cmpR (o_in (units65 hr)) (pv 2) (pe_glob rfl (T.glo 198 rfl) rfl) rfl) (pss_one (ps_ret (pe_own (O_answered T) (hr.mono (by first | decide | omega)) rfl (T.glo 44 rfl) pass0 (pa_cons (pe_fld (pv 0) rfl) (pa_cons (pv 2) (pa_cons (pv 3) (pa_nil))))))) (pss_nil)) (pss_cons (ps_set (i := 4) sc_Desk_say.nd rfl (by first | exact Or.inl rfl | exact Or.inr rfl) (pe_own (O_let_by T) (hr.mono (by first | decide | omega)) rfl (T.glo 41 rfl) pass0 (pa_cons (pe_own (O_changed T 2) (hr.mono (by first | decide | omega)) rfl (T.glo 40 rfl) pass0 (pa_cons (pe_fld (pv 0) rfl) (pa_cons (pv 2) (pa_cons (pv 3) (pa_nil))))) (pa_nil)))) (pss_cons (ps_expr (pe_bm PySem.F.plainAttrs_list PySem.F.slot_list_append PySem.F.type_list_append mt_append (pe_fld (pv 0) rfl) (pa_cons (pe_fld (pv 0) rfl) (pa_nil)))) (pss_cons (ps_fld (pv 0) (pv 4) rfl) (pss_one (ps_ret (pe_str))))))))))) (run_Desk_say T)
end K91
/-! ==== AS1 -/
set_option maxRecDepth 100000
set_option maxHeartbeats 4000000
/-! A try with several clauses that name their exception, one of which takes it. -/
namespace L2As
open PySem PySem.Spec PyProof.Rows L2
/-- the ends of a clause's suite: the name is unbound -/
def offE (i : Nat) (D : Ends) : Ends := { nx := fun τ G => D.nx (τ.set i none) G, rt := D.rt, bk := fun τ G => D.bk (τ.set i none) G, ct := fun τ G => D.ct (τ.set i none) G }
/-- what the clauses wish: one of them takes the exception -/
def wAll (K : PySem.W.Frag) (i : Nat) (D : Ends) : List (Value × TS) → WX
  | [] => fun _ _ _ _ => False
  | (c, ts) :: more => fun cls d τ G => ∃ b, PySem.W.exmOne K cls c = some b ∧ (b = true → ∀ e, G e = none → ts (offE i D) (τ.set i (some (.ref e))) G) ∧ (b = false → wAll K i D more cls d τ G)
/-- the clauses, each with its suite's reading -/
inductive Clauses (X : Cx) (n : Str) : List ExceptHandler → List (Value × TS) → Prop
  | done : Clauses X n [] []
  | more {x : Str} {c : Value} {ts : TS} {st : Stmt} {sts : List Stmt} {p q : Pos} {hs : List ExceptHandler} {l : List (Value × TS)} (known : Names X x c)
      (suite : ∀ (e : Addr) (oe : Obj) (pn : List (Addr × Obj)), PSs (X.suite e ((e, oe) :: pn)) (st :: sts) ts) (rest : Clauses X n hs l) :
      Clauses X n (.ExceptHandler (some (.Name x p)) (some n) (st :: sts) q :: hs) ((c, ts) :: l)
section
variable {X : Cx} {n : Str} {i : Nat} {pins : List (Addr × Obj)} {D : Ends}
/-- a caught exception: the heap has landed, the invariant stands, the exception is no part of it -/
structure Caught (X : Cx) (pins : List (Addr × Obj)) (τ : L2.St) (G : Hp) (sI s : Shared) (B : Heap) (e : Addr) (cls : Value) (d : Option Addr) : Prop where
  fl : HandSPX.FlyingZ B (X.env :: X.outer) e (Zc cls d) s.heap
  inv : Inv X pins τ G s
  again : ∀ h, HandSPX.FlyingZ B (X.env :: X.outer) e (Zc cls d) h → s.heap.UpToSlots h → Inv X pins τ G { s with heap := h }
  new : G e = none
  notL : e ≠ X.env.locals
  notF : e ∉ X.fs
theorem clauses_run (hN : X.N.Nodup) (hi : X.N[i]? = some n) (hln : X.env.kindOf n = some .local) {τ : L2.St} {G : Hp} {sI s : Shared} {B : Heap} {e : Addr} {cls : Value} {d : Option Addr} (C : Caught X pins τ G sI s B e cls d) (ok : X.Ok) :
    ∀ {hs : List ExceptHandler} {l : List (Value × TS)}, Clauses X n hs l → wAll X.K i D l cls d τ G → wpAny (model X.prog X.w) X.A (handleBy (.ref e) X.env hs) (SP X pins D) X.xe s := by
  intro hs l cl
  induction cl with
  | done => exact fun w => w.elim
  | @more x c ts st sts p q hs l known suite rest ih =>
    rintro ⟨b, eb, yes, no⟩
    obtain ⟨oe, vs, he, hz, hd⟩ := C.fl.there
    have within := C.inv.suite he hd C.new C.notL C.notF
    refine wpAny_handleBy_cons (codeAny_handlers_test ?_) (fun z => by cases z)
    have kind : PySem.W.Looks (model X.prog X.w) s.heap (typeOf (.ref e)) cls := fun A' Q' E' s' kp q' => wpAny_typeOf_ref (kp _ _ he) (by rw [hz.1]; exact q')
    have named : ∀ {Q' E' : Value → Shared → Prop}, Q' c s → wpAny (model X.prog X.w) (X.A.mark (some (.ref e))) (eval (.Name x p) X.env) Q' E' s := by
      intro Q' E' q'
      rcases known with ⟨g, nd, m | ⟨m, v, nn⟩⟩
      · exact ld_glob (X := X.suite e ((e, oe) :: (X.pn ++ pins))) within g m q' nd
      · exact ld_blt (X := X.suite e ((e, oe) :: (X.pn ++ pins))) within g m v q' nn nd
    refine named ((PySem.W.exm_one (M := model X.prog X.w) C.inv.kIn kind eb).here ?_)
    cases b with
    | false => exact ih (no rfl)
    | true =>
      refine codeAny_handlers_suite_as (HandSPX.lands_againZ C.fl fun h2 fl2 up2 => ?_)
      obtain ⟨oe2, vs2, he2, hz2, hd2⟩ := fl2.there
      have within2 := (C.again h2 fl2 up2).suite he2 hd2 C.new C.notL C.notF
      refine store_ok (X := X.suite e ((e, oe2) :: (X.pn ++ pins))) (v := .ref e) within2 hN hi (.inl hln) rfl (fun s5 I5 => ?_) (.inr hln)
      refine wpAny_mono ((suite e oe2 (X.pn ++ pins)).run [] s5 _ G (offE i D) I5 (yes rfl e C.new)) (fun fl s6 r6 => ?_) (fun _ _ z => False.elim z)
      have off : ∀ {τ6 : L2.St} {G6 : Hp} {Q' : Shared → Prop}, Inv (X.suite e ((e, oe2) :: (X.pn ++ pins))) [] τ6 G6 s6 → (∀ s7, Inv X pins (τ6.set i none) G6 s7 → Q' s7) →
          wpAny (model X.prog X.w) X.A (do bindName X.env n .none; unbindBehindTheSuite X.env n q) (fun _ s7 => Q' s7) X.xe s6 := fun I6 k => gone_ok (I6.unsuite ok) hN hi hln k
      cases fl with
      | ret u =>
        obtain ⟨v6, τ6, G6, I6, rv, k6⟩ := r6
        exact off I6 fun s7 I7 => ⟨v6, _, G6, I7, rv, k6⟩
      | next =>
        obtain ⟨τ6, G6, I6, k6⟩ := r6
        exact off I6 fun s7 I7 => ⟨_, G6, I7, k6⟩
      | cont =>
        obtain ⟨τ6, G6, I6, k6⟩ := r6
        exact off I6 fun s7 I7 => ⟨_, G6, I7, k6⟩
      | brk =>
        obtain ⟨τ6, G6, I6, k6⟩ := r6
        exact off I6 fun s7 I7 => ⟨_, G6, I7, k6⟩
theorem ps_tryAll {body : List Stmt} {h0 : ExceptHandler} {hs : List ExceptHandler} {l : List (Value × TS)} {pos : Pos} {tb : WX → TS} (stk : X.stack = X.env :: X.outer) (frm : X.env.frame = some X.env.locals) (hN : X.N.Nodup) (hi : X.N[i]? = some n) (hln : X.env.kindOf n = some .local)
    (inner : ∀ (W : WX) (pn : List (Addr × Obj)) (xe : Value → Shared → Prop), Takes (X.tr pn xe) W → PassesOwn (model X.prog X.w) X.A X.env xe → PSs (X.tr pn xe) body (tb W)) (cl : Clauses X n (h0 :: hs) l) :
    PS X (.Try body (h0 :: hs) [] [] pos) (fun D τ G => tb (wAll X.K i D l) D τ G) := by
  refine ⟨fun pins s τ G D I h => wpAny_Try_except ?_⟩
  have frames : X.A.frames = some (X.env :: X.outer) := by rw [I.ok.frames, stk]
  have tried := inner (wAll X.K i D l) (X.pn ++ pins) (fun e s₁ => wpAny (model X.prog X.w) X.A (noteFrame e X.env) (fun _ s₂ => wpAny (model X.prog X.w) X.A (setFlight e none)
      (fun _ s₃ => wpAny (model X.prog X.w) X.A (handleBy e X.env (h0 :: hs)) (SP X pins D) X.xe s₃) X.xe s₂) X.xe s₁) ?_ PassesOwn.looking
  · refine wpAny_mono (tried.run [] s τ G D (I.toTry _) h) (fun fl s1 r1 => ?_) (fun _ _ z => z)
    cases fl with
    | ret u =>
      obtain ⟨v, τ1, G1, I1, rv, k1⟩ := r1
      exact ⟨v, τ1, G1, I1.ofTry I.ok, rv, k1⟩
    | next =>
      obtain ⟨τ1, G1, I1, k1⟩ := r1
      exact wpAny_execs_nil ⟨τ1, G1, I1.ofTry I.ok, k1⟩
    | cont =>
      obtain ⟨τ1, G1, I1, k1⟩ := r1
      exact ⟨τ1, G1, I1.ofTry I.ok, k1⟩
    | brk =>
      obtain ⟨τ1, G1, I1, k1⟩ := r1
      exact ⟨τ1, G1, I1.ofTry I.ok, k1⟩
  · rintro u s1 ⟨e, B, sI, pins1, τ1, G1, cls, d, rfl, I1, nb, up, sky, new, os, bare, w1⟩
    have I2 : Inv X pins τ1 G1 sI := I1.ofTry I.ok
    refine Sky.land (M := model X.prog X.w) Zc.steady frames frm (by rw [← stk]; exact sky) fun h2 fl2 up2 => ?_
    have apart : e ∉ frs (X.env :: X.outer) := fun m => by
      obtain ⟨oe, vs, he, _, hd⟩ := fl2.there
      obtain ⟨_, o', e', nf⟩ := fl2.2.2.1.mem m
      rw [he] at e'
      cases e'
      exact nf _ hd
    refine clauses_run hN hi hln (sI := sI) (s := { s1 with heap := h2 }) ⟨fl2, I2.landed nb fl2.1 (up.trans up2) os bare, fun h3 fl3 up3 => I2.landed nb fl3.1 ((up.trans up2).trans up3) os bare, new, fun z => ?_, fun z => ?_⟩ I.ok cl w1
    · exact apart (List.mem_filterMap.mpr ⟨X.env, List.mem_cons_self, by rw [frm, z]⟩)
    · obtain ⟨en, m, k⟩ := List.mem_filterMap.mp z
      exact apart (List.mem_filterMap.mpr ⟨en, List.mem_cons_of_mem _ m, k⟩)
end
end L2As
/-! ==== K27 -/
set_option maxRecDepth 100000
set_option maxHeartbeats 4000000
namespace K91
open PySem PySem.Spec PyProof.Rows L2 SG DL
variable {P : Program} {w : World} {K : PySem.W.Frag} {mg : Str → Option Value} {base : Heap}
/-! ### NoText -/
structure NtFacts (K : PySem.W.Frag) : Prop where
  oex : OexC K (He.ga K "NoText")
  at_ : PySem.W.findIn K (.ref (He.ga K "NoText")) "at" = some none
  init : PySem.W.findIn K (.ref (He.ga K "NoText")) "__init__" = some (some (.ref (He.ma K (He.ga K "NoText") "__init__")))
  fn : PySem.W.typeIn K (.ref (He.ma K (He.ga K "NoText") "__init__")) = some (.type "function")
structure MiFacts (K : PySem.W.Frag) : Prop where
  ga : PySem.W.specialIn K (.ref (He.ga K "MossError")) "__getattribute__" = some (some (.builtin "type.__getattribute__"))
  rd : PySem.W.readsIn K (He.ga K "MossError") (.type "type") = true
  cf : PySem.W.findCls K (.ref (He.ga K "MossError")) (.type "type") "__init__" = some (.val (.builtin "ValueError.__init__"))
theorem cfB_ok {o : Option PySem.W.CFound} (h : cfB o = true) : o = some (.val (.builtin "ValueError.__init__")) := by
  unfold cfB at h
  split at h
  · rw [of_decide_eq_true h]
  · cases h
theorem Tx.mi (T : Tx K mg) (i : Nat) (h : xa0[i]? = some (fun K => miB K "MossError")) : MiFacts K := by
  have z := T.xa i _ h
  unfold miB at z
  rw [Bool.and_eq_true, Bool.and_eq_true] at z
  exact ⟨He.eqO_ok z.1, z.2.1, cfB_ok z.2.2⟩
theorem Tx.nt (T : Tx K mg) (i : Nat) (h : xa0[i]? = some (fun K => oexB K "NoText")) : NtFacts K := by
  have z := T.xa i _ h
  unfold oexB at z
  simp only [Bool.and_eq_true, decide_eq_true_iff] at z
  obtain ⟨z1, z2, z3, z4, z5, z6, z7, z8⟩ := z
  refine ⟨⟨?_, He.eqO_ok z2, z3, z4, z5⟩, He.eqO_ok z6, He.eqO_ok z7, z8⟩
  split at z1
  · rename_i t od cd sl he
    simp only [Bool.and_eq_true, decide_eq_true_iff] at z1
    obtain ⟨rfl, y1, y2, y3, y4⟩ := z1
    split at y1
    · rename_i c bm hm
      simp only [Bool.and_eq_true, decide_eq_true_iff] at y1
      obtain ⟨rfl, y5⟩ := y1
      split at y4
      · rename_i k0 k1 k2 k3 i k5 hsl
        have ei := of_decide_eq_true y4
        subst ei
        obtain ⟨nm, bs, mro, ns, qn, hd, sn, sub, ab, col, dl⟩ := cd
        simp only at hm y2 y3
        subst hm y2
        have dl' : dl = false := by cases dl <;> simp_all
        subst dl'
        refine ⟨nm, qn, ns, bs, bm, sn, sub, ab, col, od, k0, k1, k2, k3, k5, ?_, y5⟩
        rw [he]
        have es : sl = #[k0, k1, k2, k3, some (.builtin "ValueError.__new__"), k5] := by
          cases sl with
          | mk l => simp only at hsl; rw [hsl]
        rw [es]
      · cases y4
    · cases y1
  · cases z1
/-- MossError.__init__(self, ..) -/
theorem pe_mossinit {X : Cx} {e : Expr} {es : List Expr} {ta : TA} {p1 p2 pos : Pos} {pl : Sem Bool} (M : MiFacts X.K) (hg : Gl X "MossError") (hm : X.mg "MossError" = some (.ref (He.ga X.K "MossError"))) (ha : PA X (e :: es) ta)
    (hc : eval (.Call (.Attribute (.Name "MossError" p1) "__init__" p2) (e :: es) [] pos) X.env = (do
      let ov ← eval (.Name "MossError" p1) X.env
      standAt p2.atName
      let (f, first) ← holding [ov] (getMethod ov "__init__" pl)
      callWith pos f first (backTo pos (starEach (e :: es) X.env)) (backToKw pos (keywordEach [] X.env))) := by rfl)
    (he : starEach (e :: es) X.env = (false, eval e X.env) :: starEach es X.env := by rfl) (hpl : (backTo pos (starEach es X.env)).any (·.1) = false := by rfl) :
    PE X (.Call (.Attribute (.Name "MossError" p1) "__init__" p2) (e :: es) [] pos) (tVeI X.K ta) := by
  refine ⟨fun pins s σ H Q I h => ?_⟩
  refine PySem.W.methodCall_KW (ld_glob I hg hm ?_ (by decide)) hc
  refine PySem.W.method_cls I.kIn M.ga (PySem.W.cls_value I.kIn M.rd M.cf (by decide +kernel) ?_)
  show wpAny _ _ (callWith pos (Value.builtin "ValueError.__init__") [] (backTo pos (starEach (e :: es) X.env)) []) _ _ _
  refine PyProof.Rows.callWith_method1 (thn (ha.run pos pins _ σ H _ (I.tok _) h) fun us s1 ⟨vs, H1, I1, r1, a, C, ws, ev, hl, T, ea, q⟩ => ?_) he hpl
  subst ev
  cases r1 with
  | @cons _ u0 _ ur ra rw' =>
    obtain rfl : u0 = Value.ref a := ra
    have hlen : ur.length ≤ sizeLine := by
      rw [← Paired.length rw', sizeLine_eq]
      omega
    exact oinit_ok T I1 ea hlen fun s' J => ⟨.non, H1, J, rfl, q⟩
end K91
/-! ==== K28 -/
set_option maxRecDepth 100000
set_option maxHeartbeats 4000000
namespace K91
open PySem PySem.Spec PyProof.Rows L2 SG DL
variable {P : Program} {w : World} {K : PySem.W.Frag} {mg : Str → Option Value} {base : Heap}
theorem ok_x {d : He.DefD} {fd : FuncData} {N ps : List Str} {k : Nat} {sp : Sp} (F : FunD K d.name d.qual d.params d.body d.scope [] [] (He.fAd K d.at_) fd) (sc : FnScope N ps d.scope)
    (hbind : ∀ (kV doc pm : Value) (an : Option Addr) (cdv ct : Value) (us : List Value), us.length = ps.length → bindArgs (PySem.W.fnOf d.name d.qual d.params d.body d.scope .none kV doc pm an cdv ct) { pos := us } = pure (ps.zip us))
    (len : ∀ vs H Q E, sp vs H Q E → vs.length = ps.length)
    (hb : ∀ (cdv : Value) (A : Around) (outer : List Env) (s : Shared) (H : Hp) (vs : List V) (Q : VK) (E : XK), Room k (A.deeper (envOfC d.qual d.scope s.heap.objs.size (He.fAd K d.at_) cdv)) → sp vs H Q E →
      ∃ t, PSs (cxOf (L2.CX P w) P w K mg base N d.qual d.scope (He.fAd K d.at_) cdv A outer s H E) d.body t ∧ t { nx := fun _ H' => Q .non H', rt := Q } (L2.start N vs) H) : Ok P w K mg base (L2.CX P w) (k + 1) d ps sp :=
  ⟨fd, F.ok sc len hb, F.bindsN hbind, F.kp⟩
/-- what an exception's own def is asked -/
def spNI (K : PySem.W.Frag) : Sp := fun vs H Q _ => ∃ (a : Addr) (x : V), vs = [.ref a, x] ∧ H a = some (exo a (He.ga K "NoText") none) ∧ ∀ dx, H dx = none → dx ≠ a → Q .non (upd (upd H dx (exd dx [("at", x)])) a (exo a (He.ga K "NoText") (some dx)))
theorem sc_NoText_init : FnScope ["self", "at"] ["self", "at"] (defScope s_NoText_init) := ⟨rfl, rfl, rfl, by decide +kernel, rfl, by decide +kernel, by decide +kernel⟩
theorem O_NoText_init (T : Tx K mg) : Ok P w K mg base CX0 1 d_NoText_init ["self", "at"] (spNI K) := by
  obtain ⟨fd, F⟩ := T.fn 0 d_NoText_init rfl
  have nt := T.nt 24 rfl
  refine ok_v (t := tSeq (tDrop (tVeI K (tCons (tVar 0) (tCons (tC (.str "no such text")) tNil)))) (tOst K "at" (tVar 0) (tVar 1))) F sc_NoText_init (fun _ _ _ _ _ _ us hl => match us, hl with | [_, _], _ => rfl) (fun vs H Q E h => by obtain ⟨_, _, rfl, _⟩ := h; rfl)
    (fun cdv A outer s H E hr => pss_cons (ps_expr (pe_mossinit (T.mi 25 rfl) rfl (T.glo 178 rfl) (pa_cons (pv 0) (pa_cons pe_str pa_nil)))) (pss_one (ps_ost (pv 0) (pv 1)))) fun vs H Q E h => ?_
  obtain ⟨a, x, rfl, ha, q⟩ := h
  exact ⟨_, rfl, a, _, _, rfl, by show 1 ≤ 1000; decide, nt.oex, ha, x, rfl, _, rfl, a, _, rfl, nt.oex, nt.at_, .inl ⟨ha, q⟩⟩
/-- raise NoText(e): its reading behind e -/
theorem ps_nt {X : Cx} {E : XK} {k : Nat} {e : Expr} {te : TE} {p pos pos2 : Pos} (T : Tx K mg) (hc : X.calm = true) (tk : Takes X fun cls d _ H => E cls d H) (hr : Room (k + 2) X.A) (hg : Gl X "NoText") (he : PE X e te) (eK : X.K = K ∧ X.mg = mg := by exact ⟨rfl, rfl⟩)
    (h1 : starEach [e] X.env = (false, eval e X.env) :: starEach [] X.env := by rfl) : PS X (.Raise (some (.Call (.Name "NoText" p) [e] [] pos)) none pos2) (fun _ σ H => tMkO (He.ga K "NoText") (spNI K) [] (tCons te tNil) σ H fun cls d H' => E cls d H') := by
  obtain ⟨rfl, rfl⟩ := eK
  have nt := T.nt 24 rfl
  obtain ⟨fd, F, hb, hk⟩ := O_NoText_init (P := X.prog) (w := X.w) (base := X.base) T
  exact ps_raise hc tk (pmk_oex nt.oex nt.init nt.fn F (hr.mono (by omega)) hb .nil pass0 hg (T.glo 183 rfl) (pa_cons he pa_nil h1) (by decide) h1 rfl)
theorem nt_done {H1 : Hp} {x : V} {E : XK} (q : ∀ d H', Gr H1 H' → E (.ref (He.ga K "NoText")) (some d) H') : [x].length ≤ 1000 ∧ ∀ a, H1 a = none → spNI K (.ref a :: ([x] ++ [])) (upd H1 a (exo a (He.ga K "NoText") none))
    (fun v H2 => v = .non ∧ ∃ (d : Addr) (fs : List (Str × V)), H2 a = some (exo a (He.ga K "NoText") (some d)) ∧ H2 d = some (exd d fs) ∧ H1 d = none ∧ E (.ref (He.ga K "NoText")) (some d) (upd (del H2 a) d (.xd fs))) (fun _ _ _ => False) := by
  refine ⟨by show 1 ≤ 1000; decide, fun a ha => ⟨a, x, rfl, upd_same, fun dx hdx hne => ⟨rfl, dx, [("at", x)], upd_same, ?_, ?_, q _ _ fun b o e => ?_⟩⟩⟩
  · rw [upd_ne hne, upd_same]
  · rw [upd_ne hne] at hdx
    exact hdx
  · rw [upd_ne hne] at hdx
    have n1 : b ≠ a := fun z => by rw [z, ha] at e; cases e
    have n2 : b ≠ dx := fun z => by rw [z, hdx] at e; cases e
    rw [upd_ne n2, del_ne n1, upd_ne n1, upd_ne n2, upd_ne n1]
    exact e
/-- "put 1" -/
abbrev W2 : List Str := ["put", "1"]
def spNx (K : PySem.W.Frag) (C : Addr) (f : List V → Hp → Prop) : Sp := fun vs H _ E => f vs H ∧ ∀ d H', Gr H H' → E (.ref C) d H'
def inNA : List V → Hp → Prop := fun vs H => ∃ (l : Addr) (x y : V), vs = [.ref l, .int 2, x, y] ∧ H l = some (.lst (W2.map V.str))
theorem Ox_number_at (T : Tx K mg) : Ok P w K mg base (L2.CX P w) 4 d_number_at ["words", "at", "low", "high"] (spNx K (He.ga K "NoText") inNA) := by
  obtain ⟨fd, F⟩ := T.fn 56 d_number_at rfl
  refine ok_x F sc_number_at (fun _ _ _ _ _ _ us hl => match us, hl with | [_, _, _, _], _ => rfl) (fun vs H Q E h => by obtain ⟨⟨_, _, _, rfl, _⟩, _⟩ := h; rfl) fun cdv A outer s H vs Q E hr h => ⟨tSeq (tIfS (tTest (tOp (rI0 fun i j => .bl (decide (j ≤ i))) (tVar 1) (tCB (xLen K) (tCons (tVar 0) tNil))))
    (fun _ σ H => tMkO (He.ga K "NoText") (spNI K) [] (tCons (tCB (xLen K) (tCons (tVar 0) tNil)) tNil) σ H fun cls d H' => E cls d H') tNext) tNever,
    pss_cons (ps_if (pt_cmpR op_ge (pv 1) (pe_callB r_len rfl (T.free 63 rfl) boot_len (pa_cons (pv 0) pa_nil)) (nomark _)) (pss_one (ps_nt (k := 1) T rfl (takes_of rfl rfl rfl rfl) (hr.mono (by decide)) rfl (pe_callB r_len rfl (T.free 63 rfl) boot_len (pa_cons (pv 0) pa_nil)))) pss_nil) pss_never, ?_⟩
  obtain ⟨⟨l, x, y, rfl, hl⟩, q⟩ := h
  refine ⟨_, rfl, _, rfl, .ref l, 2, rfl, .inl ⟨_, SqL.of hl, rfl⟩, _, _, rfl, rfl, true, rfl, iteT ⟨_, rfl, .ref l, 2, rfl, .inl ⟨_, SqL.of hl, rfl⟩, nt_done fun d H' g => q _ _ g⟩⟩
end K91
/-! ==== K29 -/
set_option maxRecDepth 100000
set_option maxHeartbeats 4000000
namespace K91
open PySem PySem.Spec PyProof.Rows L2 SG DL
variable {P : Program} {w : World} {K : PySem.W.Frag} {mg : Str → Option Value} {base : Heap}
def inCA : List V → Hp → Prop := fun vs H => ∃ (l : Addr), vs = [.ref l, .int 1] ∧ H l = some (.lst (W2.map V.str))
theorem Ox_cell_at (T : Tx K mg) : Ok P w K mg base (L2.CX P w) 5 d_cell_at ["words", "at"] (spNx K (He.ga K "NoText") inCA) := by
  obtain ⟨fd, F⟩ := T.fn 57 d_cell_at rfl
  refine ok_x F sc_cell_at (fun _ _ _ _ _ _ us hl => match us, hl with | [_, _], _ => rfl) (fun vs H Q E h => by obtain ⟨⟨_, rfl, _⟩, _⟩ := h; rfl) fun cdv A outer s H vs Q E hr h => ⟨tSeq (tAsg (tCall (spD R_number_at) [] E0 (tCons (tVar 0) (tCons (tVar 1) (tCons (tOp (rI0 fun i j => .int (i - j)) (tC (.int 0)) (tC (.int 1000000000000))) (tCons (tC (.int 1000000000000)) tNil))))) (gName 2))
    (tRet (tTup (tCons (tVar 2) (tCons (tCall (spNx K (He.ga K "NoText") inNA) [] E (tCons (tVar 0) (tCons (tOp (xAdd K) (tVar 1) (tC (.int 1))) (tCons (tOp (rI0 fun i j => .int (i - j)) (tC (.int 0)) (tC (.int 1000000000000))) (tCons (tC (.int 1000000000000)) tNil))))) tNil)))),
    pss_cons (ps_set (i := 2) sc_cell_at.nd rfl (by first | exact Or.inl rfl | exact Or.inr rfl) (pe_own (O_number_at T) (hr.mono (by decide)) rfl (T.glo 32 rfl) pass0 (pa_cons (pv 0) (pa_cons (pv 1) (pa_cons (pe_op op_sub pe_int (pe_gint rfl (T.int 78 rfl))) (pa_cons (pe_gint rfl (T.int 78 rfl)) pa_nil))))))
      (pss_one (ps_ret (pe_tup (pa_cons (pv 2) (pa_cons (pe_own (Ox_number_at T) (hr.mono (by decide)) rfl (T.glo 32 rfl) (passes_call (takes_of (E := E) rfl rfl rfl rfl) fun _ _ _ _ h => h) (pa_cons (pv 0) (pa_cons (pe_op o_add (pv 1) pe_int) (pa_cons (pe_op op_sub pe_int (pe_gint rfl (T.int 78 rfl))) (pa_cons (pe_gint rfl (T.int 78 rfl)) pa_nil))))) pa_nil))))), ?_⟩
  obtain ⟨⟨l, rfl, hl⟩, q⟩ := h
  refine ⟨_, rfl, _, rfl, _, _, rfl, rfl, [.ro (W2.map .str), .im (.int ((1 : Nat) : Int)), .im (.int (0 - 1000000000000)), .im (.int 1000000000000)], .im (.int 1), .cons ⟨l, _, rfl, hl, .cons (.str _) (.cons (.str _) .nil)⟩ (.cons (.int _) (.cons (.int _) (.cons (.int _) .nil))), ⟨W2, 1, 1, _, _, rfl, rfl, by decide, by decide, by decide, by decide, rfl⟩, fun v H1 g1 i => ?_⟩
  refine ⟨_, rfl, _, rfl, _, rfl, .inl (.inl ⟨_, _, rfl, rfl, _, _, rfl, rfl, ⟨l, _, _, rfl, g1 _ _ hl⟩, fun d H' g2 => q d H' (g1.trans g2)⟩)⟩
def inRR : List V → Hp → Prop := fun vs _ => vs = [.str "put 1"]
theorem row2 : ("put 1" : Str) = Txt.join " " W2 := by decide +kernel
theorem split2 : Txt.split "put 1" " " = W2 := by
  rw [row2]
  exact TL.split_join (s := 32) (S := []) rfl (by decide +kernel) (by decide) (by decide)
theorem Ox_read_row (T : Tx K mg) : Ok P w K mg base (L2.CX P w) 6 d_read_row ["row"] (spNx K (He.ga K "NoText") inRR) := by
  obtain ⟨fd, F⟩ := T.fn 61 d_read_row rfl
  refine ok_x F sc_read_row (fun _ _ _ _ _ _ us hl => match us, hl with | [_], _ => rfl) (fun vs H Q E h => by obtain ⟨rfl, _⟩ := h; rfl) fun cdv A outer s H vs Q E hr h => ⟨tSeq (tAsg (tM1 xSplit (tVar 0) (tC (.str " "))) (gName 1)) (tSeq (tAsg (tOp (rIx K) (tVar 1) (tC (.int 0))) (gName 2))
      (tSeq (tIfS (tTest (tOp (xIn K false) (tVar 2) (tC (.ref (He.ga K "BARE"))))) tNever tNext) (tSeq (tIfS (tTest (tOp (xIn K false) (tVar 2) (tC (.ref (He.ga K "OF_CELLS"))))) (tSeq (tAsg (tCall (spNx K (He.ga K "NoText") inCA) [] E (tCons (tVar 1) (tCons (tC (.int 1)) tNil))) (gName 3)) tNever) tNext) tNever))),
    pss_cons (ps_set (i := 1) sc_read_row.nd rfl (by first | exact Or.inl rfl | exact Or.inr rfl) (r_split (pv 0) pe_str)) (pss_cons (ps_set (i := 2) sc_read_row.nd rfl (by first | exact Or.inl rfl | exact Or.inr rfl) (pe_ix ix_seq (pv 1) pe_int (fun _ _ => rfl)))
      (pss_cons (ps_if (pt_cmpR (o_in (units65 hr)) (pv 2) (pe_glob rfl (T.glo 196 rfl) rfl) rfl) pss_never pss_nil)
      (pss_cons (ps_if (pt_cmpR (o_in (units65 hr)) (pv 2) (pe_glob rfl (T.glo 197 rfl) rfl) rfl) (pss_cons (ps_set (i := 3) sc_read_row.nd rfl (by first | exact Or.inl rfl | exact Or.inr rfl) (pe_own (Ox_cell_at T) (hr.mono (by decide)) rfl (T.glo 33 rfl) (passes_call (takes_of (E := E) rfl rfl rfl rfl) fun _ _ _ _ h => h) (pa_cons (pv 1) (pa_cons pe_int pa_nil)))) pss_never) pss_nil) pss_never))), ?_⟩
  obtain ⟨rfl, q⟩ := h
  refine ⟨_, rfl, ⟨_, rfl⟩, _, _, rfl, rfl, by decide, by decide +kernel, fun l hl => ?_⟩
  rw [split2]
  have g1 := Gr.new (.lst (W2.map V.str)) hl
  refine ⟨_, rfl, .inl ⟨l, _, 0, .str "put", rfl, rfl, SqL.of upd_same, rfl, ?_⟩⟩
  refine ⟨_, rfl, .str "put", BAREL.map .str, .str _, .tup (T.tup 1 (x := "BARE") rfl _) (dpAll_strs BAREL), str_shaped (by decide +kernel), strs_shaped (by decide +kernel), false, congrArg V.bl ((any_str BAREL "put").trans (by decide)), iteF ?_⟩
  refine ⟨_, rfl, .str "put", OFCL.map .str, .str _, .tup (T.tup 2 (x := "OF_CELLS") rfl _) (dpAll_strs OFCL), str_shaped (by decide +kernel), strs_shaped (by decide +kernel), true, congrArg V.bl ((any_str OFCL "put").trans (by decide)), iteT ?_⟩
  exact ⟨_, rfl, ⟨l, rfl, upd_same⟩, fun d H' g2 => q d H' (g1.trans g2)⟩
end K91
/-! ==== K30 -/
set_option maxRecDepth 100000
set_option maxHeartbeats 4000000
namespace K91
open PySem PySem.Spec PyProof.Rows L2 SG DL
variable {P : Program} {w : World} {K : PySem.W.Frag} {mg : Str → Option Value} {base : Heap}
theorem Tx.exc (T : Tx K mg) (i : Nat) {x : Str} (h : fa0[i]? = some (.exc x)) : PySem.W.excIn K (He.ga K x) He.veBase "ValueError.__new__" = true ∧ PySem.W.keepIn K (.ref (He.ga K x)) = true ∧ PySem.W.subIn K (.ref (He.ga K x)) (.type "BaseException") = some true ∧
    PySem.W.typeIn K (.ref (He.ga K x)) = some (.type "type") := He.exc_ok (T.fa i _ h)
/-- raise X('..') -/
theorem ps_own {X : Cx} {E : XK} {x m : Str} {j : Nat} {p p2 pos pos2 : Pos} (T : Tx K mg) (i : Nat) (hi : fa0[i]? = some (.exc x)) (k : Nat) (hk : fa0[k]? = some (.glo x)) (hc : X.calm = true) (tk : Takes X fun cls d _ H => E cls d H) (hg : Gl X x) (eK : X.K = K ∧ X.mg = mg := by exact ⟨rfl, rfl⟩)
    (hd : (x == Str.ofString "__debug__") = false := by rfl) : PS X (.Raise (some (.Call (.Name x p) [.Constant (.str m) j p2] [] pos)) none pos2) (fun _ σ H => E (.ref (He.ga K x)) none H) := by
  obtain ⟨rfl, rfl⟩ := eK
  obtain ⟨z1, z2, z3, z4⟩ := T.exc i hi
  exact ps_raise hc tk (pmk_own PySem.F.excBase_ValueError z1 (T.glo k hk) z2 (raises_own z3 z4) hg hd)
def spNo (C : Addr) (f : List V → Hp → Prop) : Sp := fun vs H _ E => f vs H ∧ ∀ H', Gr H H' → E (.ref C) none H'
def inTB (K : PySem.W.Frag) : List V → Hp → Prop := fun vs H => ∃ (a dx pl : Addr) (now : Shp), vs = [.ref a] ∧ Dk K now [] a dx pl H
theorem Ox_taken_back (T : Tx K mg) : Ok P w K mg base (L2.CX P w) 2 d_Desk_taken_back ["self"] (spNo (He.ga K "BadDeed") (inTB K)) := by
  obtain ⟨fd, F⟩ := T.fn 71 d_Desk_taken_back rfl
  refine ok_x F sc_Desk_taken_back (fun _ _ _ _ _ _ us hl => match us, hl with | [_], _ => rfl) (fun vs H Q E h => by obtain ⟨⟨_, _, _, _, rfl, _⟩, _⟩ := h; rfl) fun cdv A outer s H vs Q E hr h => ⟨tSeq (tIfS (tTest (tOp (rEqD K) (tFld K (tVar 0) "past") (tLst tNil))) (fun _ σ H => E (.ref (He.ga K "BadDeed")) none H) tNext) tNever,
    pss_cons (ps_if (pt_cmpR (op_eqD hr.units) (pe_fld (pv 0) rfl) (pe_lst pa_nil) (nomark _)) (pss_one (ps_own T 185 rfl 180 rfl rfl (takes_of rfl rfl rfl rfl) rfl)) pss_nil) pss_never, ?_⟩
  obtain ⟨⟨a, dx, pl, now, rfl, ⟨⟨nv, hA, iv⟩, vs, hP, ip⟩⟩, q⟩ := h
  refine ⟨_, rfl, a, _, dx, _, _, rfl, hA, (T.cls 113 (x := "Desk") rfl), (T.noat 135 (x := "Desk") (f := "past") rfl), dF_past, by show 0 ≤ sizeLine; exact Nat.zero_le _, fun t0 h0 => ?_⟩
  have g0 := Gr.new (.lst []) h0
  exact ⟨.list [], .list [], .lst (SqL.of (g0 _ _ hP)) (Ims.dp (ip.kp g0.kp)), .lst (SqL.of upd_same) .nil, by decide, by decide, true, rfl, iteT (q _ g0)⟩
def inLF : List V → Hp → Prop := fun vs H => ∃ (v : V) (cs : List Cell), vs = [v] ∧ Im H v (shD (cs, true))
theorem sc_look_finite : FnScope ["shape"] ["shape"] (defScope s_look_finite) := ⟨rfl, rfl, rfl, by decide +kernel, rfl, by decide +kernel, by decide +kernel⟩
theorem Ox_look_finite (T : Tx K mg) : Ok P w K mg base (L2.CX P w) 2 d_look_finite ["shape"] (spNo (He.ga K "Endless") inLF) := by
  obtain ⟨fd, F⟩ := T.fn 44 d_look_finite rfl
  refine ok_x F sc_look_finite (fun _ _ _ _ _ _ us hl => match us, hl with | [_], _ => rfl) (fun vs H Q E h => by obtain ⟨⟨_, _, rfl, _⟩, _⟩ := h; rfl) fun cdv A outer s H vs Q E hr h => ⟨tIfS (tB (tOp (rIx K) (tVar 0) (tC (.int 1)))) (fun _ σ H => E (.ref (He.ga K "Endless")) none H) tNext,
    pss_one (ps_if (pt_val (pe_ix ix_seq (pv 0) pe_int (fun _ _ => rfl))) (pss_one (ps_own T 184 rfl 179 rfl rfl (takes_of rfl rfl rfl rfl) rfl)) pss_nil), ?_⟩
  obtain ⟨⟨v, cs, rfl, iv⟩, q⟩ := h
  obtain ⟨a, vs, rfl, ea, r⟩ := Im.tup_v iv
  cases r with
  | cons r1 r2 =>
    cases r2 with
    | cons r3 r4 =>
      cases r4
      cases Im.bl_v r3
      exact ⟨_, rfl, .inr (.inl ⟨a, _, 1, .bl true, rfl, rfl, SqT.of ea, rfl, true, rfl, iteT (q H (.refl H))⟩)⟩
def inTh : List V → Hp → Prop := fun vs H => ∃ (v x : V) (cs : List Cell), vs = [v, x] ∧ Im H v (shD (cs, true))

theorem sc_thinned : FnScope ["shape", "kept", "left", "taken", "before", "cell"] ["shape", "kept"] (defScope s_thinned) := ⟨rfl, rfl, rfl, by decide +kernel, rfl, by decide +kernel, by decide +kernel⟩
theorem Ox_thinned (T : Tx K mg) : Ok P w K mg base (L2.CX P w) 3 d_thinned ["shape", "kept"] (spNo (He.ga K "Endless") inTh) := by
  obtain ⟨fd, F⟩ := T.fn 62 d_thinned rfl
  refine ok_x F sc_thinned (fun _ _ _ _ _ _ us hl => match us, hl with | [_, _], _ => rfl) (fun vs H Q E h => by obtain ⟨⟨_, _, _, rfl, _⟩, _⟩ := h; rfl) fun cdv A outer s H vs Q E hr h => ⟨tSeq (tDrop (tCall (spNo (He.ga K "Endless") inLF) [] E (tCons (tVar 0) tNil))) tNever,
    pss_cons (ps_expr (pe_own (Ox_look_finite T) (hr.mono (by decide)) rfl (T.glo 27 rfl) (passes_call (takes_of (E := E) rfl rfl rfl rfl) fun _ _ _ _ h => h) (pa_cons (pv 0) pa_nil))) pss_never, ?_⟩
  obtain ⟨⟨v, x, cs, rfl, iv⟩, q⟩ := h
  exact ⟨_, rfl, ⟨v, cs, rfl, iv⟩, fun H' g => q H' g⟩
def inCh : List V → Hp → Prop := fun vs H => ∃ (v x : V) (cs : List Cell), vs = [v, .str "thin", x] ∧ Im H v (shD (cs, true))

theorem no_left_by (T : Tx K mg) (j : Nat) : Ok P w K mg base CX0 j d_left_by ["shape", "taken"] (fun _ _ _ _ => False) := by
  obtain ⟨fd, F⟩ := T.fn 63 d_left_by rfl
  exact ok_noV F (fun _ _ _ _ _ _ us hl => match us, hl with | [_, _], _ => rfl)
theorem Ox_changed (T : Tx K mg) : Ok P w K mg base (L2.CX P w) 4 d_changed ["shape", "word", "values"] (spNo (He.ga K "Endless") inCh) := by
  obtain ⟨fd, F⟩ := T.fn 64 d_changed rfl
  refine ok_x F sc_changed (fun _ _ _ _ _ _ us hl => match us, hl with | [_, _, _], _ => rfl) (fun vs H Q E h => by obtain ⟨⟨_, _, _, rfl, _⟩, _⟩ := h; rfl) fun cdv A outer s H vs Q E hr h => ⟨tSeq (tIfS (tTest (tOp (rEqD K) (tVar 1) (tC (.str "put")))) tNever tNext) (tSeq (tIfS (tTest (tOp (rEqD K) (tVar 1) (tC (.str "take")))) tNever tNext) (tSeq (tIfS (tTest (tOp (rEqD K) (tVar 1) (tC (.str "move")))) tNever tNext) (tSeq (tIfS (tTest (tOp (rEqD K) (tVar 1) (tC (.str "turn")))) tNever tNext) (tSeq (tIfS (tTest (tOp (rEqD K) (tVar 1) (tC (.str "out")))) tNever tNext) (tSeq (tIfS (tTest (tOp (rEqD K) (tVar 1) (tC (.str "do")))) tNever tNext) (tRet (tCall (fun _ _ _ _ => False) [] E0 (tCons (tVar 0) (tCons (tCall (spNo (He.ga K "Endless") inTh) [] E (tCons (tVar 0) (tCons (tLst tNil) tNil))) tNil))))))))),
    pss_cons (ps_if (pt_cmpR (op_eqD hr.units) (pv 1) pe_str (nomark _)) pss_never pss_nil) (pss_cons (ps_if (pt_cmpR (op_eqD hr.units) (pv 1) pe_str (nomark _)) pss_never pss_nil) (pss_cons (ps_if (pt_cmpR (op_eqD hr.units) (pv 1) pe_str (nomark _)) pss_never pss_nil) (pss_cons (ps_if (pt_cmpR (op_eqD hr.units) (pv 1) pe_str (nomark _)) pss_never pss_nil) (pss_cons (ps_if (pt_cmpR (op_eqD hr.units) (pv 1) pe_str (nomark _)) pss_never pss_nil) (pss_cons (ps_if (pt_cmpR (op_eqD hr.units) (pv 1) pe_str (nomark _)) pss_never pss_nil) (pss_one (ps_ret (pe_own (no_left_by T 1) (hr.mono (by decide)) rfl (T.glo 39 rfl) pass0 (pa_cons (pv 0) (pa_cons (pe_own (Ox_thinned T) (hr.mono (by decide)) rfl (T.glo 38 rfl) (passes_call (takes_of (E := E) rfl rfl rfl rfl) fun _ _ _ _ h => h) (pa_cons (pv 0) (pa_cons (pe_lst pa_nil) pa_nil))) pa_nil)))))))))), ?_⟩
  obtain ⟨⟨v, x, cs, rfl, iv⟩, q⟩ := h
  refine ⟨_, rfl, .str "thin", .str "put", .str _, .str _, str_shaped (by decide +kernel), str_shaped (by decide +kernel), false, congrArg V.bl ((str_eqv _ _).trans (by show decide (("thin" : Str) = "put") = false; decide)), iteF ?_⟩
  refine ⟨_, rfl, .str "thin", .str "take", .str _, .str _, str_shaped (by decide +kernel), str_shaped (by decide +kernel), false, congrArg V.bl ((str_eqv _ _).trans (by show decide (("thin" : Str) = "take") = false; decide)), iteF ?_⟩
  refine ⟨_, rfl, .str "thin", .str "move", .str _, .str _, str_shaped (by decide +kernel), str_shaped (by decide +kernel), false, congrArg V.bl ((str_eqv _ _).trans (by show decide (("thin" : Str) = "move") = false; decide)), iteF ?_⟩
  refine ⟨_, rfl, .str "thin", .str "turn", .str _, .str _, str_shaped (by decide +kernel), str_shaped (by decide +kernel), false, congrArg V.bl ((str_eqv _ _).trans (by show decide (("thin" : Str) = "turn") = false; decide)), iteF ?_⟩
  refine ⟨_, rfl, .str "thin", .str "out", .str _, .str _, str_shaped (by decide +kernel), str_shaped (by decide +kernel), false, congrArg V.bl ((str_eqv _ _).trans (by show decide (("thin" : Str) = "out") = false; decide)), iteF ?_⟩
  refine ⟨_, rfl, .str "thin", .str "do", .str _, .str _, str_shaped (by decide +kernel), str_shaped (by decide +kernel), false, congrArg V.bl ((str_eqv _ _).trans (by show decide (("thin" : Str) = "do") = false; decide)), iteF ?_⟩
  refine ⟨_, rfl, _, rfl, by show 0 ≤ sizeLine; exact Nat.zero_le _, fun l hl => ?_⟩
  have g1 := Gr.new (.lst []) hl
  exact ⟨⟨v, .ref l, cs, rfl, iv.kp g1.kp⟩, fun H' g => q H' (g1.trans g)⟩
end K91
/-! ==== K31 -/
set_option maxRecDepth 100000
set_option maxHeartbeats 4000000
namespace K91
open PySem PySem.Spec PyProof.Rows L2 SG DL
variable {P : Program} {w : World} {K : PySem.W.Frag} {mg : Str → Option Value} {base : Heap}
/-- a row that the desk refuses -/
inductive BadRow (K : PySem.W.Frag) : List V → Hp → Str → Prop
  | put {a : Addr} {H : Hp} : BadRow K [.ref a, .str "put 1"] H "NoText"
  | back {a dx pl : Addr} {now : Shp} {H : Hp} : Dk K now [] a dx pl H → BadRow K [.ref a, .str (rowT (.bare "back"))] H "BadDeed"
  | thin {a dx pl : Addr} {cs : List Cell} {past : List Shp} {H : Hp} : Dk K (cs, true) past a dx pl H → BadRow K [.ref a, .str (rowT (.bare "thin"))] H "Endless"
def spSayX (K : PySem.W.Frag) : Sp := fun vs H _ E => ∃ x : Str, BadRow K vs H x ∧ ∀ d H', Gr H H' → E (.ref (He.ga K x)) d H'
theorem Ox_say (T : Tx K mg) : Ok P w K mg base (L2.CX P w) 20 d_Desk_say ["self", "row"] (spSayX K) := by
  obtain ⟨fd, F⟩ := T.fn 72 d_Desk_say rfl
  refine ok_x F sc_Desk_say (fun _ _ _ _ _ _ us hl => match us, hl with | [_, _], _ => rfl) (fun vs H Q E h => by obtain ⟨_, b, _⟩ := h; cases b <;> rfl) fun cdv A outer s H vs Q E hr h => ?_
  obtain ⟨x, b, q⟩ := h
  cases b with
  | put =>
    refine ⟨tSeq (tIfS (tNot (tB (tCB (rIsi K) (tCons (tVar 1) (tCons (tC (.ty "str")) tNil))))) tNever tNext) (tSeq (tAsg (tCall (spNx K (He.ga K "NoText") inRR) [] E (tCons (tVar 1) tNil)) (gTup K 2 (gCons (gName 2) (gCons (gName 3) gNil)))) tNever), pss_cons (ps_if (pt_not (pt_val (pe_callB call_isi rfl (T.free 64 rfl) boot_isinstance (pa_cons (pv 1) (pa_cons (pe_bltn rfl (T.free 74 rfl) boot_str (by rfl)) pa_nil))))) pss_never pss_nil) (pss_cons (ps_asg (pe_own (Ox_read_row T) (hr.mono (by decide)) rfl (T.glo 37 rfl) (passes_call (takes_of (E := E) rfl rfl rfl rfl) fun _ _ _ _ h => h) (pa_cons (pv 1) pa_nil)) (pg_tup rfl (pgs_cons (pg_name (i := 2) sc_Desk_say.nd rfl (by first | exact Or.inl rfl | exact Or.inr rfl)) (pgs_cons (pg_name (i := 3) sc_Desk_say.nd rfl (by first | exact Or.inl rfl | exact Or.inr rfl)) pgs_nil)))) pss_never), ?_⟩
    refine ⟨_, rfl, .str _, .ty "str", .type "str", .type "str", true, rfl, .ty _, .base (.str _), kit_ty (by decide +kernel), true, rfl, iteF ?_⟩
    exact ⟨_, rfl, rfl, fun d H' g => q d H' g⟩
  | back dk =>
    refine ⟨tSeq (tIfS (tNot (tB (tCB (rIsi K) (tCons (tVar 1) (tCons (tC (.ty "str")) tNil))))) tNever tNext) (tSeq (tAsg (tCall (spP (R_read_row K 2)) [] E0 (tCons (tVar 1) tNil)) (gTup K 2 (gCons (gName 2) (gCons (gName 3) gNil)))) (tSeq (tIfS (tTest (tOp (rEqD K) (tVar 2) (tC (.str "back")))) (tRet (tMeth (He.ga K "Desk") "taken_back" (spNo (He.ga K "BadDeed") (inTB K)) [] E (tVar 0) tNil)) tNext) tNever)), pss_cons (ps_if (pt_not (pt_val (pe_callB call_isi rfl (T.free 64 rfl) boot_isinstance (pa_cons (pv 1) (pa_cons (pe_bltn rfl (T.free 74 rfl) boot_str (by rfl)) pa_nil))))) pss_never pss_nil) (pss_cons (ps_asg (pe_own (O_read_row T 2) (hr.mono (by decide)) rfl (T.glo 37 rfl) pass0 (pa_cons (pv 1) pa_nil)) (pg_tup rfl (pgs_cons (pg_name (i := 2) sc_Desk_say.nd rfl (by first | exact Or.inl rfl | exact Or.inr rfl)) (pgs_cons (pg_name (i := 3) sc_Desk_say.nd rfl (by first | exact Or.inl rfl | exact Or.inr rfl)) pgs_nil)))) (pss_cons (ps_if (pt_cmpR (op_eqD hr.units) (pv 2) pe_str (nomark _)) (pss_one (ps_ret (pe_methO0 (d := d_Desk_taken_back) (pv 0) (T.cls 113 (x := "Desk") rfl) (T.meth 176 (x := "Desk") (m := "taken_back") rfl) (Ox_taken_back T) (hr.mono (by decide)) (passes_call (takes_of (E := E) rfl rfl rfl rfl) fun _ _ _ _ h => h)))) pss_nil) pss_never)), ?_⟩
    refine ⟨_, rfl, .str _, .ty "str", .type "str", .type "str", true, rfl, .ty _, .base (.str _), kit_ty (by decide +kernel), true, rfl, iteF ?_⟩
    refine ⟨_, rfl, [.im (.str (rowT (.bare "back")))], _, .cons (.str _) .nil, ⟨.bare "back", rfl, by show ("back" : Str) ∈ BAREL; decide, rfl⟩, fun v H1 g1 hv1 => ?_⟩
    obtain ⟨p, w1, lv, rfl, ep, i1, hlv⟩ := hv1
    cases Im.str_v i1
    refine ⟨p, _, rfl, SqT.of ep, rfl, _, _, rfl, _, _, rfl, rfl, ?_⟩
    have dk1 := dk.gr g1
    obtain ⟨⟨nv, hA, iv⟩, _⟩ := id dk1
    refine ⟨_, rfl, .str "back", .str "back", .str _, .str _, str_shaped (by decide +kernel), str_shaped (by decide +kernel), true, congrArg V.bl ((str_eqv _ _).trans (by show decide (("back" : Str) = "back") = true; decide)), iteT ?_⟩
    exact ⟨_, rfl, _, _, _, rfl, hA, dF_no (by decide) (by decide), ⟨_, _, _, _, rfl, dk1⟩, fun H' g => q none H' (g1.trans g)⟩
  | thin dk =>
    refine ⟨tSeq (tIfS (tNot (tB (tCB (rIsi K) (tCons (tVar 1) (tCons (tC (.ty "str")) tNil))))) tNever tNext) (tSeq (tAsg (tCall (spP (R_read_row K 2)) [] E0 (tCons (tVar 1) tNil)) (gTup K 2 (gCons (gName 2) (gCons (gName 3) gNil)))) (tSeq (tIfS (tTest (tOp (rEqD K) (tVar 2) (tC (.str "back")))) tNever tNext) (tSeq (tIfS (tTest (tOp (rEqD K) (tVar 2) (tC (.str "deeds")))) tNever tNext) (tSeq (tIfS (tTest (tOp (xIn K false) (tVar 2) (tC (.ref (He.ga K "QUESTIONS"))))) tNever tNext) (tSeq (tAsg (tCall (spD R_let_by) [] E0 (tCons (tCall (spNo (He.ga K "Endless") inCh) [] E (tCons (tFld K (tVar 0) "now") (tCons (tVar 2) (tCons (tVar 3) tNil)))) tNil)) (gName 4)) tNever))))), pss_cons (ps_if (pt_not (pt_val (pe_callB call_isi rfl (T.free 64 rfl) boot_isinstance (pa_cons (pv 1) (pa_cons (pe_bltn rfl (T.free 74 rfl) boot_str (by rfl)) pa_nil))))) pss_never pss_nil) (pss_cons (ps_asg (pe_own (O_read_row T 2) (hr.mono (by decide)) rfl (T.glo 37 rfl) pass0 (pa_cons (pv 1) pa_nil)) (pg_tup rfl (pgs_cons (pg_name (i := 2) sc_Desk_say.nd rfl (by first | exact Or.inl rfl | exact Or.inr rfl)) (pgs_cons (pg_name (i := 3) sc_Desk_say.nd rfl (by first | exact Or.inl rfl | exact Or.inr rfl)) pgs_nil)))) (pss_cons (ps_if (pt_cmpR (op_eqD hr.units) (pv 2) pe_str (nomark _)) pss_never pss_nil) (pss_cons (ps_if (pt_cmpR (op_eqD hr.units) (pv 2) pe_str (nomark _)) pss_never pss_nil) (pss_cons (ps_if (pt_cmpR (o_in (units65 hr)) (pv 2) (pe_glob rfl (T.glo 198 rfl) rfl) rfl) pss_never pss_nil) (pss_cons (ps_set (i := 4) sc_Desk_say.nd rfl (by first | exact Or.inl rfl | exact Or.inr rfl) (pe_own (O_let_by T) (hr.mono (by decide)) rfl (T.glo 41 rfl) pass0 (pa_cons (pe_own (Ox_changed T) (hr.mono (by decide)) rfl (T.glo 40 rfl) (passes_call (takes_of (E := E) rfl rfl rfl rfl) fun _ _ _ _ h => h) (pa_cons (pe_fld (pv 0) rfl) (pa_cons (pv 2) (pa_cons (pv 3) pa_nil)))) pa_nil))) pss_never))))), ?_⟩
    refine ⟨_, rfl, .str _, .ty "str", .type "str", .type "str", true, rfl, .ty _, .base (.str _), kit_ty (by decide +kernel), true, rfl, iteF ?_⟩
    refine ⟨_, rfl, [.im (.str (rowT (.bare "thin")))], _, .cons (.str _) .nil, ⟨.bare "thin", rfl, by show ("thin" : Str) ∈ BAREL; decide, rfl⟩, fun v H1 g1 hv1 => ?_⟩
    obtain ⟨p, w1, lv, rfl, ep, i1, hlv⟩ := hv1
    cases Im.str_v i1
    refine ⟨p, _, rfl, SqT.of ep, rfl, _, _, rfl, _, _, rfl, rfl, ?_⟩
    have dk1 := dk.gr g1
    obtain ⟨⟨nv, hA, iv⟩, _⟩ := id dk1
    refine ⟨_, rfl, .str "thin", .str "back", .str _, .str _, str_shaped (by decide +kernel), str_shaped (by decide +kernel), false, congrArg V.bl ((str_eqv _ _).trans (by show decide (("thin" : Str) = "back") = false; decide)), iteF ?_⟩
    refine ⟨_, rfl, .str "thin", .str "deeds", .str _, .str _, str_shaped (by decide +kernel), str_shaped (by decide +kernel), false, congrArg V.bl ((str_eqv _ _).trans (by show decide (("thin" : Str) = "deeds") = false; decide)), iteF ?_⟩
    refine ⟨_, rfl, .str "thin", QL.map .str, .str _, .tup (T.tup 3 (x := "QUESTIONS") rfl H1) (dpAll_strs QL), str_shaped (by decide +kernel), strs_shaped (by decide +kernel), false, congrArg V.bl ((any_str QL "thin").trans (by decide)), iteF ?_⟩
    exact ⟨_, rfl, _, _, _, _, _, rfl, hA, (T.cls 113 (x := "Desk") rfl), (T.noat 134 (x := "Desk") (f := "now") rfl), dF_now, _, rfl, _, rfl, ⟨nv, lv, _, rfl, iv⟩, fun H' g => q none H' (g1.trans g)⟩
end K91
/-! ==== K32 -/
set_option maxRecDepth 100000
set_option maxHeartbeats 4000000
namespace K91
open PySem PySem.Spec PyProof.Rows L2 SG DL
variable {P : Program} {w : World} {K : PySem.W.Frag} {mg : Str → Option Value} {base : Heap}
/-- o.m(e, ..) within a try: what it raises is wished for at the slots as they stand -/
def tMT (C : Addr) (m : Str) (sp : Sp) (E : L2.St → XK) (ta : TE) (t : TA) : TE := fun τ H Q => ta τ H fun x H1 => ∃ a dx fs, x = .ref a ∧ H1 a = some (.ins C dx fs) ∧ fs.lookup m = none ∧ t τ H1 fun vs H2 => sp (x :: vs) H2 Q (E τ)
theorem pe_mt {X : Cx} {CX : CXT} {k : Nat} {C : Addr} {d : He.DefD} {ps : List Str} {sp : Sp} {E : L2.St → XK} {m : Str} {pos apos : Pos} {e o : Expr} {es : List Expr} {ta : TE} {t : TA} {pl : Sem Bool} (he : PE X o ta) (c : Cls X.K C) (hm : Meth X.K C m (He.fAd X.K d.at_))
    (O : Ok X.prog X.w X.K X.mg X.base CX k d ps sp) (hr : Room k X.A) (hx : ∀ τ, PassesAt CX X τ (E τ)) (ha : PA X (e :: es) t)
    (h1 : starEach (e :: es) X.env = (false, eval e X.env) :: starEach es X.env := by rfl) (h2 : (backTo pos (starEach es X.env)).any (·.1) = false := by rfl)
    (h3 : eval (.Call (.Attribute o m apos) (e :: es) [] pos) X.env = (do
      let ov ← eval o X.env
      standAt apos.atName
      let (f, first) ← holding [ov] (getMethod ov m pl)
      callWith pos f first (backTo pos (starEach (e :: es) X.env)) (backToKw pos (keywordEach [] X.env))) := by rfl) :
    PE X (.Call (.Attribute o m apos) (e :: es) [] pos) (tMT C m sp E ta t) := by
  obtain ⟨fd, F, hb, _⟩ := O
  refine ⟨fun pins s τ H Q I h => PySem.W.methodCall_KW (pl := pl) (thn (he.run pins s τ H _ I h) fun u s1 r1 => ?_) h3⟩
  obtain ⟨x, H1, I1, rx, a, dx, fs, rfl, ea, l, q1⟩ := r1
  obtain rfl : u = Value.ref a := rx
  refine getmeth_ok I1 ea c hm l (PySem.W.callWith_K (first := [.ref a]) (h₀ := X.base) I1.ok.mod.kin hm.kp (thn (ha.run pos pins s1 τ H1 _ I1 q1) fun us s2 r2 => ?_) h1 h2)
  obtain ⟨vs, H2, I2, rv, q2⟩ := r2
  exact ⟨I2.kIn, run_fnS (us := .ref a :: us) (vs := .ref a :: vs) F hr hb (hx τ) I2 (.cons rfl rv) q2⟩
def refF (x : Str) : Str := if x = "NoText" then "text" else if x = "BadDeed" then "deed" else "other"
def spRf (K : PySem.W.Frag) : Sp := fun vs H Q _ => ∃ (x : Str) (a dx pl : Addr) (now : Shp) (past : List Shp), BadRow K vs H x ∧ (∃ r, vs = [.ref a, r]) ∧ Dk K now past a dx pl H ∧ ∀ H', Gr H H' → Q (.str (refF x)) H'
theorem sc_law_refused : FnScope ["desk", "row", "found", "e"] ["desk", "row"] (defScope s_law_refused) := ⟨rfl, rfl, rfl, by decide +kernel, rfl, by decide +kernel, by decide +kernel⟩
theorem O_law_refused (T : Tx K mg) : Ok P w K mg base CX0 22 d_law_refused ["desk", "row"] (spRf K) := by
  obtain ⟨fd, F⟩ := T.fn 86 d_law_refused rfl
  refine ok_v (t := tSeq (tAsg (tC (.str "")) (gName 2)) (tSeq (fun D τ H => tDrop (tMT (He.ga K "Desk") "say" (spSayX K) (WE (L2As.wAll K 3 D [(.ref (He.ga K "NoText"), tAsg (tC (.str "text")) (gName 2)), (.ref (He.ga K "BadDeed"), tAsg (tC (.str "deed")) (gName 2)), (.ref (He.ga K "MossError"), tAsg (tC (.str "other")) (gName 2))])) (tVar 0) (tCons (tVar 1) tNil)) D τ H) (tRet (tVar 2))))
    F sc_law_refused (fun _ _ _ _ _ _ us hl => match us, hl with | [_, _], _ => rfl) (fun vs H Q E h => by obtain ⟨_, _, _, _, _, _, b, _⟩ := h; cases b <;> rfl)
    (fun cdv A outer s H E hr => pss_cons (ps_set (i := 2) sc_law_refused.nd rfl (by first | exact Or.inl rfl | exact Or.inr rfl) pe_str) (pss_cons (L2As.ps_tryAll (n := "e") (i := 3) (tb := fun W => tDrop (tMT (He.ga K "Desk") "say" (spSayX K) (WE W) (tVar 0) (tCons (tVar 1) tNil))) rfl rfl sc_law_refused.nd rfl rfl
      (fun W pn xe tk _ => pss_one (ps_expr (pe_mt (d := d_Desk_say) (pv 0) (T.cls 113 (x := "Desk") rfl) (T.meth 177 (x := "Desk") (m := "say") rfl) (Ox_say T) (hr.mono (by decide)) (fun τ => passAt tk τ) (pa_cons (pv 1) pa_nil))))
      (.more ⟨rfl, by decide, .inl (T.glo 183 rfl)⟩ (fun _ _ _ => pss_one (ps_set (i := 2) sc_law_refused.nd rfl (by first | exact Or.inl rfl | exact Or.inr rfl) pe_str)) (.more ⟨rfl, by decide, .inl (T.glo 180 rfl)⟩ (fun _ _ _ => pss_one (ps_set (i := 2) sc_law_refused.nd rfl (by first | exact Or.inl rfl | exact Or.inr rfl) pe_str)) (.more ⟨rfl, by decide, .inl (T.glo 178 rfl)⟩ (fun _ _ _ => pss_one (ps_set (i := 2) sc_law_refused.nd rfl (by first | exact Or.inl rfl | exact Or.inr rfl) pe_str)) .done)))) (pss_one (ps_ret (pv 2))))) fun vs H Q E h => ?_
  obtain ⟨x, a, dx, pl, now, past, b, ⟨r, rfl⟩, dk, q⟩ := h
  obtain ⟨nv, hA, _⟩ := dk.ins
  refine ⟨_, rfl, a, dx, _, rfl, hA, dF_no (by decide) (by decide), _, rfl, x, b, fun d H' g => ?_⟩
  cases b with
  | put => exact ⟨true, He.exm_ok (T.fa 186 (.exm "NoText" "NoText" true) rfl), fun _ e he => ⟨_, rfl, q H' g⟩, fun z => nomatch z⟩
  | back _ => exact ⟨false, He.exm_ok (T.fa 189 (.exm "BadDeed" "NoText" false) rfl), (fun z => nomatch z), fun _ => ⟨true, He.exm_ok (T.fa 190 (.exm "BadDeed" "BadDeed" true) rfl), fun _ e he => ⟨_, rfl, q H' g⟩, fun z => nomatch z⟩⟩
  | thin _ => exact ⟨false, He.exm_ok (T.fa 192 (.exm "Endless" "NoText" false) rfl), (fun z => nomatch z), fun _ => ⟨false, He.exm_ok (T.fa 193 (.exm "Endless" "BadDeed" false) rfl), (fun z => nomatch z), fun _ => ⟨true, He.exm_ok (T.fa 194 (.exm "Endless" "MossError" true) rfl), fun _ e he => ⟨_, rfl, q H' g⟩, fun z => nomatch z⟩⟩⟩
end K91
/-! ==== DL6 -/
set_option maxRecDepth 100000
set_option maxHeartbeats 4000000
/-! A desk held apart from the slots. -/
namespace K91
open PySem PySem.Spec PyProof.Rows L2 SG DL
variable {P : Program} {w : World} {K : PySem.W.Frag} {mg : Str → Option Value} {base : Heap}
def SV.noOb : SV → Bool
  | .ob _ _ => false
  | _ => true
structure SD (K : PySem.W.Frag) (now : Shp) (past : List Shp) (a dx pl : Addr) (B : Hp) (σ : L2.St) (H : Hp) (ρ : Rho) : Prop where
  st : St B σ H ρ
  dk : Dk K now past a dx pl H
  ba : B a = none
  bp : B pl = none
  sep : ∀ (i : Nat) (x : SV) (v : V), ρ[i]? = some (some x) → x.lsty = true → σ[i]? = some (some v) → v ≠ .ref pl
  nob : ∀ (i : Nat) (x : SV), ρ[i]? = some (some x) → SV.noOb x = true
variable {now : Shp} {past : List Shp} {a dx pl : Addr} {B : Hp} {σ : L2.St} {H : Hp} {ρ : Rho}
theorem SD.grow {H' : Hp} (S : SD K now past a dx pl B σ H ρ) (g : Gr H H') : SD K now past a dx pl B σ H' ρ := ⟨S.st.grow g, S.dk.gr g, S.ba, S.bp, S.sep, S.nob⟩
/-- the desk was asked -/
theorem SD.ask {H' : Hp} (S : SD K now past a dx pl B σ H ρ) (sm : SameD a pl H H') (dk : Dk K now past a dx pl H') : SD K now past a dx pl B σ H' ρ := by
  obtain ⟨⟨nv, hA, _⟩, vs0, hP, _⟩ := S.dk
  have tup : ∀ b vs, H b = some (.tup vs) → H' b = some (.tup vs) := fun b vs e => sm b _ e (fun z => by rw [z, hA] at e; cases e) (fun z => by rw [z, hP] at e; cases e)
  refine ⟨⟨fun b o e => sm b o (S.st.gr b o e) (fun z => by rw [z, S.ba] at e; cases e) (fun z => by rw [z, S.bp] at e; cases e), S.st.len, fun i x e => ?_, S.st.apart⟩, dk, S.ba, S.bp, S.sep, S.nob⟩
  obtain ⟨v, hv, h⟩ := S.st.at_ i x e
  refine ⟨v, hv, ?_⟩
  have sp := S.sep i x v e
  have nb := S.nob i x e
  cases x with
  | im d => exact im_sb tup h
  | rf b => exact h
  | ob Po m => cases nb
  | own ds =>
    obtain ⟨l, us, rfl, n, el, r⟩ := h
    exact ⟨l, us, rfl, n, sm l _ el (fun z => by rw [z, hA] at el; cases el) (fun z => sp rfl hv (by rw [z])), ims_sb tup r⟩
  | ro ds =>
    obtain ⟨l, us, rfl, el, r⟩ := h
    exact ⟨l, us, rfl, sm l _ el (fun z => by rw [z, hA] at el; cases el) (fun z => sp rfl hv (by rw [z])), ims_sb tup r⟩
  | dic ks =>
    obtain ⟨l, kvs, rfl, n, el, r⟩ := h
    exact ⟨l, kvs, rfl, n, sm l _ el (fun z => by rw [z, hA] at el; cases el) (fun z => sp rfl hv (by rw [z])), r⟩
theorem SD.setIm (S : SD K now past a dx pl B σ H ρ) (i : Nat) {v : V} {d : PyData} (h : Im H v d) : SD K now past a dx pl B (σ.set i (some v)) H (ρ.set i (some (.im d))) := by
  refine ⟨S.st.setIm i h, S.dk, S.ba, S.bp, fun j x u e l hu => ?_, fun j x e => ?_⟩
  · by_cases c : i = j
    · subst c
      rw [List.getElem?_set] at e
      simp only [if_true] at e
      by_cases z : i < ρ.length
      · rw [if_pos z] at e; cases e; cases l
      · rw [if_neg z] at e; cases e
    · rw [List.getElem?_set_ne c] at e hu
      exact S.sep j x u e l hu
  · by_cases c : i = j
    · subst c
      rw [List.getElem?_set] at e
      simp only [if_true] at e
      by_cases z : i < ρ.length
      · rw [if_pos z] at e; cases e; rfl
      · rw [if_neg z] at e; cases e
    · rw [List.getElem?_set_ne c] at e
      exact S.nob j x e
theorem SD.clear (S : SD K now past a dx pl B σ H ρ) (i : Nat) : SD K now past a dx pl B σ H (ρ.set i none) := by
  have no : ∀ {j : Nat} {y : SV}, (ρ.set i none)[j]? = some (some y) → ρ[j]? = some (some y) := fun {j y} e => by
    by_cases c : i = j
    · subst c
      rw [List.getElem?_set] at e
      simp only [if_true] at e
      by_cases l : i < ρ.length
      · rw [if_pos l] at e; cases e
      · rw [if_neg l] at e; cases e
    · rw [List.getElem?_set_ne c] at e
      exact e
  exact ⟨S.st.forget i, S.dk, S.ba, S.bp, fun j x u e l hu => S.sep j x u (no e) l hu, fun j x e => S.nob j x (no e)⟩
/-- what a reading leads to, the desk as it was -/
def OutD (K : PySem.W.Frag) (now : Shp) (past : List Shp) (a dx pl : Addr) (B : Hp) (D : Ends) : Out → Prop
  | .nx ρ => ∀ σ H, SD K now past a dx pl B σ H ρ → D.nx σ H
  | .rt x => ∀ v H, Gr B H → Dk K now past a dx pl H → SH B H v x → D.rt v H
  | .bk ρ => ∀ σ H, SD K now past a dx pl B σ H ρ → D.bk σ H
  | .ct ρ => ∀ σ H, SD K now past a dx pl B σ H ρ → D.ct σ H
  | .rp Po => ∀ v H, Gr B H → Dk K now past a dx pl H → Po v H → D.rt v H
def RunD (K : PySem.W.Frag) (now : Shp) (past : List Shp) (a dx pl : Addr) (t : TS) (ρ : Rho) (o : Out) : Prop := ∀ (B : Hp) (σ : L2.St) (H : Hp) (D : Ends), SD K now past a dx pl B σ H ρ → OutD K now past a dx pl B D o → t D σ H
variable {t u : TS} {ρ1 : Rho} {o : Out} {te : TE} {x : SV}
theorem rd_seq (h1 : RunD K now past a dx pl t ρ (.nx ρ1)) (h2 : RunD K now past a dx pl u ρ1 o) : RunD K now past a dx pl (tSeq t u) ρ o := fun B σ H D S q => h1 B σ H _ S fun σ1 H1 S1 => h2 B σ1 H1 D S1 q
theorem rd_next : RunD K now past a dx pl tNext ρ (.nx ρ) := fun B σ H D S q => q σ H S
theorem rd_ret (h : EvS te ρ x) : RunD K now past a dx pl (tRet te) ρ (.rt x) := fun B σ H D S q => h B σ H _ S.st fun v H1 g r => q v H1 (S.st.gr.trans g) (S.dk.gr g) (r.back S.st.gr)
theorem rd_asgIm {i : Nat} {d : PyData} (h : EvS te ρ (.im d)) : RunD K now past a dx pl (tAsg te (gName i)) ρ (.nx (ρ.set i (some (.im d)))) := fun B σ H D S q => h B σ H _ S.st fun v H1 g r => q _ _ ((S.grow g).setIm i r)
theorem rd_clr (i : Nat) (h : RunD K now past a dx pl t ρ (.nx ρ1)) : RunD K now past a dx pl t ρ (.nx (ρ1.set i none)) := fun B σ H D S q => h B σ H D S fun σ1 H1 S1 => q σ1 H1 (S1.clear i)
theorem rd_if {tc : TT} {b : Bool} (hc : EvT tc ρ b) (h1 : b = true → RunD K now past a dx pl t ρ o) (h2 : b = false → RunD K now past a dx pl u ρ o) : RunD K now past a dx pl (tIfS tc t u) ρ o := fun B σ H D S q => hc B σ H _ S.st fun H1 g => by
  cases b with
  | true => exact iteT (h1 rfl B σ H1 D (S.grow g) q)
  | false => exact iteF (h2 rfl B σ H1 D (S.grow g) q)
/-- data, the desk asked on the way -/
def EvDI (K : PySem.W.Frag) (now : Shp) (past : List Shp) (a dx pl : Addr) (te : TE) (ρ : Rho) (d : PyData) : Prop := ∀ (B : Hp) (σ : L2.St) (H : Hp) (Q : VK), SD K now past a dx pl B σ H ρ → (∀ v H1, SD K now past a dx pl B σ H1 ρ → Im H1 v d → Q v H1) → te σ H Q
theorem ed_of {d : PyData} (h : EvS te ρ (.im d)) : EvDI K now past a dx pl te ρ d := fun B σ H Q S q => h B σ H _ S.st fun v H1 g r => q v H1 (S.grow g) r
theorem ed_say {i : Nat} {r : RowK} {ans : Str} (hi : ρ[i]? = some (some (.rf a))) (h : EvS te ρ (.im (.str (rowT r)))) (hr : rowOk 2 r) (hl : past.length < 1000) (sr : SayR now past r ans now past) :
    EvDI K now past a dx pl (tMeth (He.ga K "Desk") "say" (spSay K) [] E0 (tVar i) (tCons te tNil)) ρ (.str ans) := fun B σ H Q S q => by
  obtain ⟨v0, h0, e0⟩ := S.st.at_ i _ hi
  cases e0
  obtain ⟨nv, hA, _⟩ := S.dk.ins
  refine ⟨_, h0, a, dx, _, rfl, hA, dF_no (by decide) (by decide), h B σ H _ S.st fun v H1 g rv => ?_⟩
  cases Im.str_v rv
  have S1 := S.grow g
  exact ⟨a, dx, pl, now, now, past, past, r, ans, rfl, S1.dk, hr, hl, sr, fun H' sm dk' => q _ H' (S1.ask sm dk') (.str ans)⟩
theorem ed_shape {i : Nat} (hi : ρ[i]? = some (some (.rf a))) : EvDI K now past a dx pl (tMeth (He.ga K "Desk") "shape" (spDS K) [] E0 (tVar i) tNil) ρ (shD now) := fun B σ H Q S q => by
  obtain ⟨v0, h0, e0⟩ := S.st.at_ i _ hi
  cases e0
  obtain ⟨nv, hA, _⟩ := S.dk.ins
  exact ⟨_, h0, a, dx, _, rfl, hA, dF_no (by decide) (by decide), a, dx, pl, now, past, rfl, S.dk, fun v iv => q v H S iv⟩
theorem ed_ne {ta tb : TE} {d e : PyData} (ha : EvDI K now past a dx pl ta ρ d) (hb : EvS tb ρ (.im e)) (sd : SeqAt.shaped d = true) (se : SeqAt.shaped e = true) : EvDI K now past a dx pl (tOp (rNeD K) ta tb) ρ (.bool (!PyData.eqv d e)) := fun B σ H Q S q =>
  ha B σ H _ S fun v H1 S1 r1 => hb B σ H1 _ S1.st fun u H2 g r2 => ⟨d, e, Im.dp (r1.kp g.kp), Im.dp r2, sd, se, q _ H2 (S1.grow g) (.bl _)⟩
/-- a test, the desk asked on the way -/
def EvDT (K : PySem.W.Frag) (now : Shp) (past : List Shp) (a dx pl : Addr) (tt : TT) (ρ : Rho) (b : Bool) : Prop := ∀ (B : Hp) (σ : L2.St) (H : Hp) (Q : Bool → Hp → Prop), SD K now past a dx pl B σ H ρ → (∀ H1, SD K now past a dx pl B σ H1 ρ → Q b H1) → tt σ H Q
theorem edt_test {b : Bool} (h : EvDI K now past a dx pl te ρ (.bool b)) : EvDT K now past a dx pl (tTest te) ρ b := fun B σ H Q S q => h B σ H _ S fun v H1 S1 r => ⟨b, r.bl_v, q H1 S1⟩
theorem edt_or {tt tu : TT} {b c : Bool} (h1 : EvDT K now past a dx pl tt ρ b) (h2 : b = false → EvDT K now past a dx pl tu ρ c) : EvDT K now past a dx pl (tOr tt tu) ρ (b || c) := fun B σ H Q S q => h1 B σ H _ S fun H1 S1 => by
  cases b with
  | true => exact iteT (q H1 S1)
  | false => exact iteF (h2 rfl B σ H1 _ S1 q)
theorem edt_to {tt : TT} {b c : Bool} (e : b = c) (h : EvDT K now past a dx pl tt ρ b) : EvDT K now past a dx pl tt ρ c := e ▸ h
theorem rd_ifD {tc : TT} {b : Bool} (hc : EvDT K now past a dx pl tc ρ b) (h1 : b = true → RunD K now past a dx pl t ρ o) (h2 : b = false → RunD K now past a dx pl u ρ o) : RunD K now past a dx pl (tIfS tc t u) ρ o := fun B σ H D S q => hc B σ H _ S fun H1 S1 => by
  cases b with
  | true => exact iteT (h1 rfl B σ H1 D S1 q)
  | false => exact iteF (h2 rfl B σ H1 D S1 q)
theorem rd_ifDNo {tc : TT} (hc : EvDT K now past a dx pl tc ρ false) (h : RunD K now past a dx pl u ρ o) : RunD K now past a dx pl (tSeq (tIfS tc t tNext) u) ρ o := rd_seq (rd_ifD hc (fun z => nomatch z) fun _ => rd_next) h
theorem rd_asgOwn {i : Nat} {ds : List PyData} (h : EvS te ρ (.own ds)) : RunD K now past a dx pl (tAsg te (gName i)) ρ (.nx (ρ.set i (some (.own ds)))) := fun B σ H D S q => h B σ H _ S.st fun v H1 g r => by
  obtain ⟨l, vs, rfl, nl, el, rl⟩ := r
  have S1 := S.grow g
  obtain ⟨vs0, hP, _⟩ := S.dk.lst
  have lp : l ≠ pl := fun z => by rw [z, hP] at nl; cases nl
  refine q _ _ ⟨S.st.setNew g i (x := .own ds) ⟨l, vs, rfl, nl, el, rl⟩ (fun _ z => nomatch z), S1.dk, S.ba, S.bp, fun j x u e ly hu => ?_, fun j x e => ?_⟩
  · by_cases c : i = j
    · subst c
      rw [List.getElem?_set] at e hu
      simp only [if_true] at e hu
      by_cases z : i < ρ.length
      · rw [if_pos (S.st.len ▸ z)] at hu
        cases hu
        exact fun y => lp (V.ref.inj y)
      · rw [if_neg z] at e; cases e
    · rw [List.getElem?_set_ne c] at e hu
      exact S.sep j x u e ly hu
  · by_cases c : i = j
    · subst c
      rw [List.getElem?_set] at e
      simp only [if_true] at e
      by_cases z : i < ρ.length
      · rw [if_pos z] at e; cases e; rfl
      · rw [if_neg z] at e; cases e
    · rw [List.getElem?_set_ne c] at e
      exact S.nob j x e
theorem rd_asg2 {i j : Nat} {d1 d2 : PyData} (h : EvS te ρ (.im (.tuple [d1, d2]))) : RunD K now past a dx pl (tAsg te (gTup K 2 (gCons (gName i) (gCons (gName j) gNil)))) ρ (.nx ((ρ.set i (some (.im d1))).set j (some (.im d2)))) := fun B σ H D S q =>
  h B σ H _ S.st fun v H1 g r => by
    obtain ⟨b, ws, rfl, e, r⟩ := Im.tup_v r
    cases r with
    | cons r1 r2 =>
      cases r2 with
      | cons r3 r4 =>
        cases r4
        exact ⟨b, _, rfl, SqT.of e, rfl, _, _, rfl, _, _, rfl, rfl, q _ _ (((S.grow g).setIm i r1).setIm j r3)⟩
/-! ### loops over a list that is held fast -/
open Classical in
noncomputable def addB (B H : Hp) (l : Addr) : Hp := fun b => if b = l then H b else B b
theorem addB_same {B H : Hp} {l : Addr} : addB B H l l = H l := by unfold addB; exact if_pos rfl
theorem addB_ne {B H : Hp} {l b : Addr} (h : b ≠ l) : addB B H l b = B b := by unfold addB; exact if_neg h
theorem SD.add {l : Addr} (S : SD K now past a dx pl B σ H ρ) (n1 : l ≠ a) (n2 : l ≠ pl) (n3 : ∀ (i : Nat) (x : SV), ρ[i]? = some (some x) → x.mut = true → σ[i]? ≠ some (some (.ref l))) : Gr B (addB B H l) ∧ SD K now past a dx pl (addB B H l) σ H ρ := by
  refine ⟨fun b o e => ?_, ⟨⟨fun b o e => ?_, S.st.len, fun i x e => ?_, S.st.apart⟩, S.dk, ?_, ?_, S.sep, S.nob⟩⟩
  · by_cases z : b = l
    · rw [z, addB_same, ← z]; exact S.st.gr b o e
    · rw [addB_ne z]; exact e
  · by_cases z : b = l
    · rw [z, addB_same] at e; rw [z]; exact e
    · rw [addB_ne z] at e; exact S.st.gr b o e
  · obtain ⟨v, hv, h⟩ := S.st.at_ i x e
    refine ⟨v, hv, ?_⟩
    have n := n3 i x e
    cases x with
    | im d => exact h
    | ro ds => exact h
    | rf b => exact h
    | ob Po m => exact h
    | own ds =>
      obtain ⟨b, vs, rfl, nb, r⟩ := h
      exact ⟨b, vs, rfl, by rw [addB_ne fun z => n rfl (by rw [← z]; exact hv)]; exact nb, r⟩
    | dic ks =>
      obtain ⟨b, vs, rfl, nb, r⟩ := h
      exact ⟨b, vs, rfl, by rw [addB_ne fun z => n rfl (by rw [← z]; exact hv)]; exact nb, r⟩
  · rw [addB_ne (Ne.symm n1)]; exact S.ba
  · rw [addB_ne (Ne.symm n2)]; exact S.bp
theorem SD.back {B' : Hp} (S : SD K now past a dx pl B' σ H ρ) (g : Gr B B') : SD K now past a dx pl B σ H ρ := ⟨S.st.back g, S.dk, g.back S.ba, g.back S.bp, S.sep, S.nob⟩
theorem OutD.back {B' : Hp} {D : Ends} (g : Gr B B') : ∀ {o : Out}, OutD K now past a dx pl B D o → OutD K now past a dx pl B' D o
  | .nx _, h => fun σ H S => h σ H (S.back g)
  | .rt _, h => fun v H gr dk r => h v H (g.trans gr) dk (r.back g)
  | .bk _, h => fun σ H S => h σ H (S.back g)
  | .ct _, h => fun σ H S => h σ H (S.back g)
  | .rp _, h => fun v H gr dk r => h v H (g.trans gr) dk r
end K91
/-! ==== EX1 -/
set_option maxRecDepth 100000
set_option maxHeartbeats 4000000
/-! xs.extend(t) of a tuple t. -/
namespace K91
open PySem PySem.Spec PyProof PyProof.Rows PySem.AutoSeq1 L2 SG DL
theorem extend_tup (l b : Addr) (its : Array Value) (n : Nat) (o2 : Obj) (its2 : Array Value) (n2 : Nat) (long : ¬(!its.isEmpty && Builtin.List.listTooLong (its.size + its2.size)) = true) (z1 : its.size ≤ sizeLine) (z2 : its.size + its2.size ≤ sizeLine + 1) (hc : o2.cls = .type "tuple") (hd : o2.data = .seq its2 n2) :
    Meets (Builtin.«list.extend» ⟨[.ref l, .ref b], []⟩) (fun _ R s => (s.heap.get? l = some ({ cls := .type "list", dict := none, data := .seq its n, slots := #[] } : Obj)) ∧ s.heap.get? b = some o2 ∧
      R (.ok (.ret Value.none)) { s with heap := s.heap.update l (Obj.mapSeq fun x => x ++ its2), toks := s.toks }) := by
  obtain ⟨cls, dd, data, sl⟩ := o2
  simp only at hc hd
  subst hc hd
  refine .of_wp fun prog w A R s h => ?_
  obtain ⟨hp, g, d, tk, os⟩ := s
  obtain ⟨h1, h2, q⟩ := h
  have i1 := PySem.AutoSeq1.idx_int
  have i2 := PySem.AutoSeq1.sub_tuple_tuple
  have i3 := PySem.AutoSeq1.sub_list_list
  have i4 := PySem.AutoSeq1.sub_tuple_list
  have i5 := PySem.AutoSeq1.sub_list_tuple
  have big : (its ++ its2).size ≤ sizeLine + 1 := by rw [Array.size_append]; exact z2
  wp_walk using (wpAny_updateSeq h1 rfl (hz := z1) (_hz' := big)), wpAny_loadPart' h1, wpAny_loadPart' h2
  exact ⟨_, rfl, q⟩
def rExtT (K : PySem.W.Frag) : V → List V → Hp → VK → Prop := fun x vs H Q => ∃ l b xs zs, x = V.ref l ∧ vs = [V.ref b] ∧ H l = some (HO.lst xs) ∧ SqT K H b zs ∧ xs.length + zs.length ≤ 100000 ∧ Q V.non (upd H l (HO.lst (xs ++ zs)))
theorem mt_extT {X : Cx} : MtM X "list.extend" (rExtT X.K) := by
  intro pins s σ H x vs v us Q I rx rv h
  obtain ⟨l, b, xs, zs, rfl, rfl, hl, hb, hz, q⟩ := h
  cases rx
  obtain ⟨u, rfl, ru⟩ := rv.one
  cases ru
  obtain ⟨z1, its, n, r1, e1, g1⟩ := I.lstM hl
  obtain ⟨its2, r2, ⟨o2, g2, hc, n2, hd⟩, z2⟩ := I.tuple hb
  have l2 := r2.length
  have fits : its.toArray.size + its2.toArray.size ≤ sizeLine := by rw [List.size_toArray, List.size_toArray, sizeLine_eq]; omega
  have short : ¬ (!its.toArray.isEmpty && Builtin.List.listTooLong (its.toArray.size + its2.toArray.size)) = true := by
    rw [notLongL fits, Bool.and_false]
    exact Bool.false_ne_true
  refine call_meets PySem.F.slot_list_extend ⟨_, g1, rfl⟩ PySem.F.entry_list_extend (PySem.F.args_list_extend_2 _ _) (extend_tup l b its.toArray n o2 its2.toArray n2 short (by rw [List.size_toArray]; omega) (by omega) hc hd) ⟨g1, g2, ?_⟩
  exact ⟨.non, _, I.lset (its' := its ++ its2) hl g1 (by simp) (r1.append r2) (by rw [List.length_append, sizeLine_eq]; omega), rfl, q⟩
end K91
/-! ==== DL7 -/
set_option maxRecDepth 100000
set_option maxHeartbeats 4000000
/-! Loops with a desk apart. -/
namespace K91
open PySem PySem.Spec PyProof.Rows L2 SG DL
variable {K : PySem.W.Frag} {now : Shp} {past : List Shp} {a dx pl : Addr} {B : Hp} {σ : L2.St} {H : Hp} {ρ ρ1 : Rho} {t u : TS} {o : Out} {te : TE} {g : TG}
/-- a turn -/
def TurnD (K : PySem.W.Frag) (now : Shp) (past : List Shp) (a dx pl : Addr) (g : TG) (t : TS) (ρ : Rho) (d : PyData) (o : Out) : Prop := ∀ (B : Hp) (σ : L2.St) (H : Hp) (D : Ends) (v : V), SD K now past a dx pl B σ H ρ → Im H v d → OutD K now past a dx pl B D o → g v σ H fun σ2 H2 => t D σ2 H2
theorem td_name {j : Nat} {d : PyData} (h : RunD K now past a dx pl t (ρ.set j (some (.im d))) o) : TurnD K now past a dx pl (gName j) t ρ d o := fun B σ H D v S i q => h B _ H D (S.setIm j i) q
theorem td_pair {i j : Nat} {d1 d2 : PyData} (h : RunD K now past a dx pl t ((ρ.set i (some (.im d1))).set j (some (.im d2))) o) : TurnD K now past a dx pl (gTup K 2 (gCons (gName i) (gCons (gName j) gNil))) t ρ (.tuple [d1, d2]) o := fun B σ H D v S im q => by
  obtain ⟨b, ws, rfl, e, r⟩ := im.tup_v
  cases r with
  | cons r1 r2 =>
    cases r2 with
    | cons r3 r4 =>
      cases r4
      exact ⟨b, _, rfl, SqT.of e, rfl, _, _, rfl, _, _, rfl, rfl, h B _ H D ((S.setIm i r1).setIm j r3) q⟩
open Classical in
noncomputable def hideD (a pl : Addr) (σ : L2.St) (ρ : Rho) (H : Hp) : Hp := fun b => if b = a ∨ b = pl then none else hideM σ ρ H b
theorem hideD_ne {b : Addr} (h1 : b ≠ a) (h2 : b ≠ pl) (h3 : ¬ MutAt σ ρ b) : hideD a pl σ ρ H b = H b := by
  unfold hideD
  rw [if_neg (not_or.mpr ⟨h1, h2⟩), hideM_ne h3]
/-- all is held fast but the desk and the slots' own lists -/
theorem SD.hide (S : SD K now past a dx pl B σ H ρ) : Gr B (hideD a pl σ ρ H) ∧ SD K now past a dx pl (hideD a pl σ ρ H) σ H ρ := by
  obtain ⟨gb, S1⟩ := S.st.hide
  have low : Gr (hideD a pl σ ρ H) (hideM σ ρ H) := fun b o e => by
    unfold hideD at e
    split at e
    · cases e
    · exact e
  refine ⟨fun b o e => ?_, S1.back low, S.dk, ?_, ?_, S.sep, S.nob⟩
  · unfold hideD
    rw [if_neg (fun z => by rcases z with z | z <;> rw [z] at e <;> first | (rw [S.ba] at e; cases e) | (rw [S.bp] at e; cases e))]
    exact gb b o e
  · unfold hideD; exact if_pos (.inl rfl)
  · unfold hideD; exact if_pos (.inr rfl)
/-- a loop over a list that is but read; f: the slots behind so many items -/
theorem rd_for {α : Type} {enc : α → PyData} {i : Nat} {l : List α} {f : List α → Rho} (hi : (f [])[i]? = some (some (.ro (l.map enc)))) (h : ∀ p x r, l = p ++ x :: r → TurnD K now past a dx pl g t (f p) (enc x) (.nx (f (p ++ [x])))) : RunD K now past a dx pl (tFor (iList K (tVar i)) g t) (f []) (.nx (f l)) := fun B σ H D S q => by
  obtain ⟨v, hv, b, vs, rfl, eb, rb⟩ := S.st.at_ i _ hi
  obtain ⟨⟨nv, hA, _⟩, vs0, hP, _⟩ := S.dk
  have nm : ¬ MutAt σ (f []) b := fun ⟨j, x, e, m, hj⟩ => by
    refine S.st.apart j i x _ _ (fun z => ?_) e m hi rfl hj hv
    subst z
    rw [hi] at e
    cases e
    cases m
  have hb : hideD a pl σ (f []) H b = some (.lst vs) := (hideD_ne (fun z => by rw [z, hA] at eb; cases eb) (fun z => S.sep i _ _ hi rfl hv (by rw [z])) nm).trans eb
  have ht : ∀ c us, H c = some (.tup us) → hideD a pl σ (f []) H c = some (.tup us) := fun c us e => (hideD_ne (fun z => by rw [z, hA] at e; cases e) (fun z => by rw [z, hP] at e; cases e) (not_mut S.st e rfl)).trans e
  obtain ⟨g1, S1⟩ := S.hide
  have lv : vs.length = l.length := by rw [rb.len, List.length_map]
  refine ⟨_, hv, b, rfl, ⟨vs, SqL.of eb⟩, fun k m σ' H' => k + m = l.length ∧ SD K now past a dx pl (hideD a pl σ (f []) H) σ' H' (f (l.take k)), ⟨l.length, Nat.zero_add _, S1⟩, ?_⟩
  rintro k m σ' H' ⟨hkm, S2⟩
  by_cases c : k < l.length
  · obtain ⟨x, hx⟩ : ∃ x, l[k]? = some x := ⟨_, List.getElem?_eq_getElem c⟩
    have ex : l = l.take k ++ x :: l.drop (k + 1) := by
      rw [List.getElem?_eq_getElem c] at hx
      cases hx
      rw [← List.drop_eq_getElem_cons c, List.take_append_drop]
    have e1 : l.take (k + 1) = l.take k ++ [x] := by rw [List.take_succ, hx] <;> rfl
    refine .inr ⟨⟨vs, _, SqL.of (S2.st.gr _ _ hb), List.getElem?_eq_getElem (by rw [lv]; exact c)⟩, fun σ2 H2 => SD K now past a dx pl (hideD a pl σ (f []) H) σ2 H2 (f (l.take (k + 1))), fun σ2 H2 s => ⟨m - 1, by omega, by omega, s⟩, fun y H2 yl => ?_⟩
    obtain ⟨rfl, yl⟩ := yl
    obtain ⟨u0, hu0, iu⟩ := rb.at_ (i := k) (d := enc x) (by rw [List.getElem?_map, hx] <;> rfl)
    have ey : y = u0 := Option.some.inj ((yl vs (SqL.of (S2.st.gr _ _ hb))).symm.trans hu0)
    subst ey
    refine h _ x _ ex _ σ' H2 _ y S2 (im_sb (fun c2 us e => S2.st.gr _ _ (ht c2 us e)) iu) ?_
    rw [← e1]
    exact fun σ4 H4 S4 => S4
  · have e1 : l.take k = l := List.take_of_length_le (Nat.le_of_not_lt c)
    rw [e1] at S2
    exact .inl ⟨⟨vs, SqL.of (S2.st.gr _ _ hb), by rw [lv]; exact Nat.le_of_not_lt c⟩, q σ' H' (S2.back g1)⟩
end K91
/-! ==== DL8 -/
set_option maxRecDepth 100000
set_option maxHeartbeats 4000000
/-! More rules with a desk apart; a slice of a tuple. -/
namespace K91
open PySem PySem.Spec PyProof.Rows L2 SG DL
variable {K : PySem.W.Frag} {now : Shp} {past : List Shp} {a dx pl : Addr} {B : Hp} {σ : L2.St} {H : Hp} {ρ ρ1 ρ2 : Rho} {t u : TS} {o : Out} {te : TE} {g : TG}
theorem rd_fg (is : List Nat) (h : RunD K now past a dx pl t ρ (.nx ρ1)) (e : is.foldl (fun r i => r.set i none) ρ1 = ρ2 := by rfl) : RunD K now past a dx pl t ρ (.nx ρ2) := by
  subst e
  induction is generalizing ρ1 with
  | nil => exact h
  | cons i is ih => exact ih (rd_clr i h)
theorem rd_nx (e : ρ1 = ρ2) (h : RunD K now past a dx pl t ρ (.nx ρ1)) : RunD K now past a dx pl t ρ (.nx ρ2) := e ▸ h
/-- an own list is but read from here on -/
theorem rd_freeze (i : Nat) {ds : List PyData} (hi : ρ[i]? = some (some (.own ds))) (h : RunD K now past a dx pl t (ρ.set i (some (.ro ds))) o) : RunD K now past a dx pl t ρ o := fun B σ H D S q => by
  refine h B σ H D ⟨⟨S.st.gr, by rw [List.length_set]; exact S.st.len, fun j x e => ?_, fun j k x y v n ex mx ey ly hv => ?_⟩, S.dk, S.ba, S.bp, fun j x v e l hv => ?_, fun j x e => ?_⟩ q
  · by_cases c : i = j
    · subst c
      rw [List.getElem?_set_self (List.getElem?_eq_some_iff.mp hi).1] at e
      cases e
      obtain ⟨v, h1, l, vs, h2, _, h3⟩ := S.st.at_ i _ hi
      exact ⟨v, h1, l, vs, h2, h3⟩
    · rw [List.getElem?_set_ne c] at e
      exact S.st.at_ j x e
  · by_cases c : i = j
    · subst c
      rw [List.getElem?_set_self (List.getElem?_eq_some_iff.mp hi).1] at ex
      cases ex
      cases mx
    · rw [List.getElem?_set_ne c] at ex
      by_cases d : i = k
      · subst d
        exact S.st.apart j i x _ v n ex mx hi rfl hv
      · rw [List.getElem?_set_ne d] at ey
        exact S.st.apart j k x y v n ex mx ey ly hv
  · by_cases c : i = j
    · subst c
      exact S.sep i _ v hi rfl hv
    · rw [List.getElem?_set_ne c] at e
      exact S.sep j x v e l hv
  · by_cases c : i = j
    · subst c
      rw [List.getElem?_set_self (List.getElem?_eq_some_iff.mp hi).1] at e
      cases e
      rfl
    · rw [List.getElem?_set_ne c] at e
      exact S.nob j x e
/-- xs.extend(t) of a tuple -/
theorem rd_extT {i : Nat} {ds es : List PyData} (hi : ρ[i]? = some (some (.own ds))) (h : EvS te ρ (.im (.tuple es))) (hl : ds.length + es.length < 100000) :
    RunD K now past a dx pl (tDrop (tBM K "list" (rExtT K) (tVar i) (tCons te tNil))) ρ (.nx (ρ.set i (some (.own (ds ++ es))))) := fun B σ H D S q => by
  obtain ⟨v, ha, l, vs, rfl, nb, e, r⟩ := S.st.at_ i _ hi
  refine ⟨_, ha, .inl ⟨rfl, vs, SqL.of e⟩, h B σ H _ S.st fun w H1 g rw => ?_⟩
  obtain ⟨b, ws, rfl, eb, rb⟩ := rw.tup_v
  have S1 := S.grow g
  have e1 := g _ _ e
  have kp : Kp H1 (upd H1 l (.lst (vs ++ ws))) := .upd e1 rfl
  refine ⟨l, b, vs, ws, rfl, rfl, e1, SqT.of eb, by rw [r.len, rb.len]; omega, q _ _ ?_⟩
  obtain ⟨⟨nv, hA, iA⟩, us, hP, iP⟩ := S1.dk
  have na : a ≠ l := fun z => by rw [z, e1] at hA; cases hA
  have np : pl ≠ l := fun z => S.sep i _ _ hi rfl ha (by rw [z])
  refine ⟨S1.st.change i hi rfl ha ⟨l, _, rfl, nb, upd_same, ((r.kp g.kp).kp kp).app (rb.kp kp)⟩ rfl, ⟨⟨nv, (upd_ne na).trans hA, iA.kp kp⟩, us, (upd_ne np).trans hP, iP.kp kp⟩, S.ba, S.bp, fun j x v ex lx hv => ?_, fun j x ex => ?_⟩
  · by_cases c : i = j
    · subst c
      exact S.sep i _ v hi rfl hv
    · rw [List.getElem?_set_ne c] at ex
      exact S.sep j x v ex lx hv
  · by_cases c : i = j
    · subst c
      rw [List.getElem?_set_self (List.getElem?_eq_some_iff.mp hi).1] at ex
      cases ex
      rfl
    · rw [List.getElem?_set_ne c] at ex
      exact S.nob j x ex
theorem six_hi (n : Nat) : HT.sIx n n (some 1) = min 1 n := HT.sIx_nat n n 1
/-- t[:1] -/
theorem es_cut1 {ds : List PyData} (h : EvS te ρ (.im (.tuple ds))) : EvS (tSl (rSlA K) te tNoPart (tPart (tC (.int 1)))) ρ (.im (.tuple (ds.take 1))) := fun B σ H Q S q => h B σ H _ S fun v H1 g r => by
  obtain ⟨b, ws, rfl, eb, rb⟩ := r.tup_v
  have ln := rb.len
  refine ⟨1, rfl, b, ws, rfl, SqT.of eb, fun z => ?_, fun z p hp => ?_⟩
  · have z2 : min 1 ws.length = ws.length := (six_hi _).symm.trans z.2
    have e : ds.take 1 = ds := List.take_of_length_le (by omega)
    exact q _ H1 g (e.symm ▸ (.tup eb rb : Im H1 (.ref b) (.tuple ds)))
  · have e : cutV ws none (some 1) = ws.take 1 := by
      unfold cutV
      rw [HT.sIx_none, six_hi, List.drop_zero]
      cases ws with
      | nil => rfl
      | cons x xs => rw [List.length_cons, show min 1 (xs.length + 1) - 0 = 1 by omega]
    rw [e]
    have g2 := Gr.new (.tup (ws.take 1)) hp
    exact q _ _ (g.trans g2) (.tup upd_same ((rb.kp g2.kp).take 1))
end K91
/-! ==== DL9 -/
set_option maxRecDepth 100000
set_option maxHeartbeats 4000000
/-! A desk apart that changes. -/
namespace K91
open PySem PySem.Spec PyProof.Rows L2 SG DL
variable {K : PySem.W.Frag} {now now' : Shp} {past past' : List Shp} {a dx pl : Addr} {B : Hp} {σ : L2.St} {H : Hp} {ρ ρ1 ρ2 : Rho} {t u : TS} {o : Out} {te : TE} {g : TG}
/-- the desk was told something -/
theorem SD.say {H' : Hp} (S : SD K now past a dx pl B σ H ρ) (sm : SameD a pl H H') (dk : Dk K now' past' a dx pl H') : SD K now' past' a dx pl B σ H' ρ := by
  obtain ⟨⟨nv, hA, _⟩, vs0, hP, _⟩ := S.dk
  have tup : ∀ b vs, H b = some (.tup vs) → H' b = some (.tup vs) := fun b vs e => sm b _ e (fun z => by rw [z, hA] at e; cases e) (fun z => by rw [z, hP] at e; cases e)
  refine ⟨⟨fun b o e => sm b o (S.st.gr b o e) (fun z => by rw [z, S.ba] at e; cases e) (fun z => by rw [z, S.bp] at e; cases e), S.st.len, fun i x e => ?_, S.st.apart⟩, dk, S.ba, S.bp, S.sep, S.nob⟩
  obtain ⟨v, hv, h⟩ := S.st.at_ i x e
  refine ⟨v, hv, ?_⟩
  have sp := S.sep i x v e
  have nb := S.nob i x e
  cases x with
  | im d => exact im_sb tup h
  | rf b => exact h
  | ob Po m => cases nb
  | own ds =>
    obtain ⟨l, us, rfl, n, el, r⟩ := h
    exact ⟨l, us, rfl, n, sm l _ el (fun z => by rw [z, hA] at el; cases el) (fun z => sp rfl hv (by rw [z])), ims_sb tup r⟩
  | ro ds =>
    obtain ⟨l, us, rfl, el, r⟩ := h
    exact ⟨l, us, rfl, sm l _ el (fun z => by rw [z, hA] at el; cases el) (fun z => sp rfl hv (by rw [z])), ims_sb tup r⟩
  | dic ks =>
    obtain ⟨l, kvs, rfl, n, el, r⟩ := h
    exact ⟨l, kvs, rfl, n, sm l _ el (fun z => by rw [z, hA] at el; cases el) (fun z => sp rfl hv (by rw [z])), r⟩
theorem sd_say {i : Nat} {r : RowK} {ans : Str} {Q : VK} (S : SD K now past a dx pl B σ H ρ) (hi : ρ[i]? = some (some (.rf a))) (h : EvS te ρ (.im (.str (rowT r)))) (hr : rowOk 2 r) (hl : past.length < 1000) (sr : SayR now past r ans now' past')
    (q : ∀ H1, SD K now' past' a dx pl B σ H1 ρ → Q (.str ans) H1) : tMeth (He.ga K "Desk") "say" (spSay K) [] E0 (tVar i) (tCons te tNil) σ H Q := by
  obtain ⟨v0, h0, e0⟩ := S.st.at_ i _ hi
  cases e0
  obtain ⟨nv, hA, _⟩ := S.dk.ins
  refine ⟨_, h0, a, dx, _, rfl, hA, dF_no (by decide) (by decide), h B σ H _ S.st fun v H1 g rv => ?_⟩
  cases Im.str_v rv
  have S1 := S.grow g
  exact ⟨a, dx, pl, now, now', past, past', r, ans, rfl, S1.dk, hr, hl, sr, fun H' sm dk' => q H' (S1.say sm dk')⟩
/-- a slot's own list is changed -/
theorem SD.chg (S : SD K now past a dx pl B σ H ρ) {i : Nat} {ds es : List PyData} {l : Addr} {vs ws : List V} (hi : ρ[i]? = some (some (.own ds))) (hv : σ[i]? = some (some (.ref l))) (nb : B l = none) (e1 : H l = some (.lst vs)) (r : ∀ H', Kp H H' → Ims H' ws es) :
    SD K now past a dx pl B σ (upd H l (.lst ws)) (ρ.set i (some (.own es))) := by
  have kp : Kp H (upd H l (.lst ws)) := .upd e1 rfl
  obtain ⟨⟨nv, hA, iA⟩, us, hP, iP⟩ := S.dk
  have na : a ≠ l := fun z => by rw [z, e1] at hA; cases hA
  have np : pl ≠ l := fun z => S.sep i _ _ hi rfl hv (by rw [z])
  refine ⟨S.st.change i hi rfl hv ⟨l, _, rfl, nb, upd_same, r _ kp⟩ rfl, ⟨⟨nv, (upd_ne na).trans hA, iA.kp kp⟩, us, (upd_ne np).trans hP, iP.kp kp⟩, S.ba, S.bp, fun j x v ex lx hv => ?_, fun j x ex => ?_⟩
  · by_cases c : i = j
    · subst c
      exact S.sep i _ v hi rfl hv
    · rw [List.getElem?_set_ne c] at ex
      exact S.sep j x v ex lx hv
  · by_cases c : i = j
    · subst c
      rw [List.getElem?_set_self (List.getElem?_eq_some_iff.mp hi).1] at ex
      cases ex
      rfl
    · rw [List.getElem?_set_ne c] at ex
      exact S.nob j x ex
/-- xs.append(d) -/
theorem rd_append {i : Nat} {ds : List PyData} {d : PyData} (hi : ρ[i]? = some (some (.own ds))) (h : EvS te ρ (.im d)) (hl : ds.length < 100000) :
    RunD K now past a dx pl (tDrop (tBM K "list" rAppend (tVar i) (tCons te tNil))) ρ (.nx (ρ.set i (some (.own (ds ++ [d]))))) := fun B σ H D S q => by
  obtain ⟨v, ha, l, vs, rfl, nb, e, r⟩ := S.st.at_ i _ hi
  refine ⟨_, ha, .inl ⟨rfl, vs, SqL.of e⟩, h B σ H _ S.st fun w H1 g rw => ?_⟩
  have e1 := g _ _ e
  exact ⟨l, vs, w, rfl, rfl, e1, by rw [r.len, sizeLine_eq]; omega, q _ _ ((S.grow g).chg hi ha nb e1 fun H' kp => ((r.kp g.kp).kp kp).app (.cons (rw.kp kp) .nil))⟩
/-- y = xs.pop() -/
theorem rd_pop {i j : Nat} {ds : List PyData} {d : PyData} (hi : ρ[i]? = some (some (.own (ds ++ [d])))) :
    RunD K now past a dx pl (tAsg (tBM0 K "list" rPop (tVar i)) (gName j)) ρ (.nx ((ρ.set i (some (.own ds))).set j (some (.im d)))) := fun B σ H D S q => by
  obtain ⟨v, ha, l, vs, rfl, nb, e, r⟩ := S.st.at_ i _ hi
  obtain ⟨us, u, rfl, ius, iu⟩ := ims_last r
  refine ⟨_, ha, .inl ⟨rfl, _, SqL.of e⟩, l, us ++ [u], u, rfl, rfl, e, ?_, ?_⟩
  · rw [List.length_append, List.getElem?_append_right (by show us.length ≤ us.length + 1 - 1; omega)]
    show [u][us.length + 1 - 1 - us.length]? = _
    rw [show us.length + 1 - 1 - us.length = 0 by omega]
    rfl
  rw [List.dropLast_concat]
  exact q _ _ ((S.chg hi ha nb e fun H' kp => ius.kp kp).setIm j (iu.kp (.upd e rfl)))
/-- a list's end, from some place on -/
theorem es_tail {x : SV} {ds : List PyData} {k : Nat} {ti : TE} (h : EvS te ρ x) (ex : x.arg = .ro ds) (hi : EvS ti ρ (.im (.int (-(k : Int))))) (k0 : 0 < k) (px : x.plain = true := by rfl) : EvS (tSl (rSlL K) te (tPart ti) tNoPart) ρ (.own (ds.drop (ds.length - k))) := fun B σ H Q S q => h B σ H _ S fun v H1 g r => by
  have r2 := r.asArg px
  rw [ex] at r2
  obtain ⟨b, ws, rfl, eb, rb⟩ := r2
  refine hi B σ H1 _ (S.grow g) fun w H2 g2 iw => ⟨_, iw.int_v, b, ws, rfl, SqL.of (g2 _ _ eb), fun p hp => ?_⟩
  have e : cutV ws (some (-(k : Int))) none = ws.drop (ws.length - k) := by
    unfold cutV
    rw [HT.sIx_none]
    have e2 : HT.sIx ws.length 0 (some (-(k : Int))) = ws.length - k := by
      show (if (-(k : Int)) < 0 then ((-(k : Int)) + (ws.length : Int)).toNat else _) = _
      rw [if_pos (by omega)]
      omega
    rw [e2]
    exact List.take_of_length_le (by rw [List.length_drop]; omega)
  rw [e]
  have g3 := Gr.new (.lst (ws.drop (ws.length - k))) hp
  refine q _ _ ((g.trans g2).trans g3) ⟨p, _, rfl, (g.trans g2).back hp, upd_same, ?_⟩
  rw [← rb.len]
  exact ((rb.kp g2.kp).kp g3.kp).drop _
/-- the same two, the slots' values told -/
theorem sd_append {i : Nat} {ds : List PyData} {d : PyData} {D : Ends} (S : SD K now past a dx pl B σ H ρ) (hi : ρ[i]? = some (some (.own ds))) (h : EvS te ρ (.im d)) (hl : ds.length < 100000) (q : ∀ H1, SD K now past a dx pl B σ H1 (ρ.set i (some (.own (ds ++ [d])))) → D.nx σ H1) :
    tDrop (tBM K "list" rAppend (tVar i) (tCons te tNil)) D σ H := by
  obtain ⟨v, ha, l, vs, rfl, nb, e, r⟩ := S.st.at_ i _ hi
  refine ⟨_, ha, .inl ⟨rfl, vs, SqL.of e⟩, h B σ H _ S.st fun w H1 g rw => ?_⟩
  have e1 := g _ _ e
  exact ⟨l, vs, w, rfl, rfl, e1, by rw [r.len, sizeLine_eq]; omega, q _ ((S.grow g).chg hi ha nb e1 fun H' kp => ((r.kp g.kp).kp kp).app (.cons (rw.kp kp) .nil))⟩
theorem sd_pop {i j : Nat} {ds : List PyData} {d : PyData} {D : Ends} (S : SD K now past a dx pl B σ H ρ) (hi : ρ[i]? = some (some (.own (ds ++ [d])))) (q : ∀ v H1, SD K now past a dx pl B (σ.set j (some v)) H1 ((ρ.set i (some (.own ds))).set j (some (.im d))) → D.nx (σ.set j (some v)) H1) :
    tAsg (tBM0 K "list" rPop (tVar i)) (gName j) D σ H := by
  obtain ⟨v, ha, l, vs, rfl, nb, e, r⟩ := S.st.at_ i _ hi
  obtain ⟨us, u, rfl, ius, iu⟩ := ims_last r
  refine ⟨_, ha, .inl ⟨rfl, _, SqL.of e⟩, l, us ++ [u], u, rfl, rfl, e, ?_, ?_⟩
  · rw [List.length_append, List.getElem?_append_right (by show us.length ≤ us.length + 1 - 1; omega)]
    show [u][us.length + 1 - 1 - us.length]? = _
    rw [show us.length + 1 - 1 - us.length = 0 by omega]
    rfl
  rw [List.dropLast_concat]
  exact q _ _ ((S.chg hi ha nb e fun H' kp => ius.kp kp).setIm j (iu.kp (.upd e rfl)))
end K91
/-! ==== MA1 -/
set_option maxRecDepth 100000
set_option maxHeartbeats 4000000
namespace K91
open PySem PySem.Spec PyProof.Rows L2 SG DL
/-! ### two tellings of the same shapes -/
theorem rising_filter {l : List Cell} (h : Rising l) (p : Cell → Bool) : Rising (l.filter p) := List.Pairwise.filter p h
theorem rising_onlyIn {a b : List Cell} (h : Rising a) : Rising (onlyIn a b) := rising_filter h _
theorem mem_onlyIn {a b : List Cell} {c : Cell} : c ∈ onlyIn a b ↔ c ∈ a ∧ ¬ c ∈ b := by
  unfold onlyIn
  rw [List.mem_filter]
  simp
theorem met_rising (a b : Shp) (m : Bool) : Rising (metF a b m).1 := rising_filter (rise_rising _) _
theorem mem_met {a b : Shp} {m : Bool} {c : Cell} : c ∈ (metF a b m).1 ↔ (c ∈ a.1 ∨ c ∈ b.1) ∧ ((if m then hasB a c && hasB b c else hasB a c || hasB b c) != (if m then a.2 && b.2 else a.2 || b.2)) = true := by
  unfold metF
  rw [List.mem_filter, mem_rise, List.mem_append]
theorem bothF_rising {a b : Shp} (ha : Rising a.1) (hb : Rising b.1) : Rising (bothF a b).1 := by
  unfold bothF
  by_cases h1 : (a.2 && b.2) = true
  · rw [if_pos h1]; exact rise_rising _
  · rw [if_neg h1]
    by_cases h2 : a.2 = true
    · rw [if_pos h2]; exact rising_onlyIn hb
    · rw [if_neg h2]
      by_cases h3 : b.2 = true
      · rw [if_pos h3]; exact rising_onlyIn ha
      · rw [if_neg h3]; exact rising_onlyIn ha
theorem bothF_met {a b : Shp} (ha : Rising a.1) (hb : Rising b.1) : bothF a b = metF a b true := by
  refine Prod.ext (rising_one (bothF_rising ha hb) (met_rising a b true) fun c => ?_) ?_
  · rw [mem_met]
    obtain ⟨x, u⟩ := a
    obtain ⟨y, v⟩ := b
    unfold bothF hasB
    by_cases p : c ∈ x <;> by_cases q : c ∈ y <;> cases u <;> cases v <;> simp [mem_onlyIn, mem_rise, p, q]
  · obtain ⟨x, u⟩ := a
    obtain ⟨y, v⟩ := b
    unfold bothF metF
    cases u <;> cases v <;> rfl
theorem eitherF_met {a b : Shp} (ha : Rising a.1) (hb : Rising b.1) : eitherF a b = metF a b false := by
  have e : bothF (outF a) (outF b) = metF (outF a) (outF b) true := bothF_met ha hb
  unfold eitherF
  rw [e]
  refine Prod.ext (rising_one (met_rising _ _ _) (met_rising a b false) fun c => ?_) ?_
  · show c ∈ (metF (outF a) (outF b) true).1 ↔ _
    rw [mem_met, mem_met]
    obtain ⟨x, u⟩ := a
    obtain ⟨y, v⟩ := b
    unfold outF hasB
    by_cases p : c ∈ x <;> by_cases q : c ∈ y <;> cases u <;> cases v <;> simp [p, q]
  · obtain ⟨x, u⟩ := a
    obtain ⟨y, v⟩ := b
    cases u <;> cases v <;> rfl
theorem mv_rising {l : List Cell} (h : Rising l) (f : Cell → Cell) (hf : ∀ a b, lt2 a b → lt2 (f a) (f b)) : Rising (l.map f) := List.pairwise_map.mpr (List.Pairwise.imp (fun q => hf _ _ q) h)
theorem mvF_rising {s : Shp} (h : Rising s.1) (d : Cell) : Rising (mvF s d).1 := mv_rising h _ fun a b q => by
  unfold lt2 mvC at *
  simp only at *
  omega
theorem keptF_rising {cs : List Cell} (h : Rising cs) (p0 : Cell) (p : List Cell) : Rising (keptF cs p0 p) := rising_filter (mv_rising h _ fun a b q => by
  unfold lt2 lsC at *
  simp only at *
  omega) _
theorem mem_kept {cs : List Cell} {p0 : Cell} {ps : List Cell} {x : Cell} : x ∈ keptF cs p0 (p0 :: ps) ↔ ∀ d ∈ p0 :: ps, mvC d x ∈ cs := by
  unfold keptF liesOn
  rw [List.mem_filter, List.all_map, List.all_eq_true]
  constructor
  · rintro ⟨_, h⟩ d hd
    exact of_decide_eq_true (h d hd)
  · intro h
    refine ⟨List.mem_map.mpr ⟨mvC p0 x, h p0 List.mem_cons_self, ?_⟩, fun d hd => decide_eq_true (h d hd)⟩
    unfold lsC mvC
    exact Prod.ext (show p0.1 + x.1 - p0.1 = x.1 by omega) (show p0.2 + x.2 - p0.2 = x.2 by omega)
theorem mem_sh {cs : List Cell} {s0 : Cell} {st : List Cell} {sg : Int} {x : Cell} : x ∈ shF cs s0 (s0 :: st) sg ↔ ∀ d ∈ s0 :: st, stC x sg d ∈ cs := by
  unfold shF shQ
  rw [mem_rise, List.mem_filter, List.all_eq_true]
  constructor
  · rintro ⟨_, h⟩ d hd
    exact of_decide_eq_true (h d hd)
  · intro h
    refine ⟨List.mem_map.mpr ⟨stC x sg s0, h s0 List.mem_cons_self, ?_⟩, fun d hd => decide_eq_true (h d hd)⟩
    unfold spotC stC
    exact Prod.ext (show x.1 + sg * s0.1 - sg * s0.1 = x.1 by omega) (show x.2 + sg * s0.2 - sg * s0.2 = x.2 by omega)
theorem mem_mirr {p : List Cell} {x : Cell} : x ∈ mirr p ↔ ∃ d ∈ p, x = (0 - d.1, 0 - d.2) := by
  unfold mirr
  rw [mem_rise, List.mem_map]
  constructor
  · rintro ⟨d, hd, e⟩; exact ⟨d, hd, e.symm⟩
  · rintro ⟨d, hd, e⟩; exact ⟨d, hd, e.symm⟩
theorem keptM_rising {cs : List Cell} (h : Rising cs) (p : List Cell) : Rising (keptM cs p) := by
  cases p with
  | nil => exact .nil
  | cons a p => exact keptF_rising h a _
theorem mem_keptM {cs p : List Cell} (n : 0 < p.length) {x : Cell} : x ∈ keptM cs p ↔ ∀ d ∈ p, mvC d x ∈ cs := by
  cases p with
  | nil => cases n
  | cons a p => exact mem_kept
theorem kept_sh {cs : List Cell} (h : Rising cs) (p0 : Cell) (ps : List Cell) : keptM cs (p0 :: ps) = shF cs p0 (p0 :: ps) 1 := by
  refine rising_one (keptM_rising h _) (rise_rising _) fun x => ?_
  rw [mem_keptM (show 0 < (p0 :: ps).length from Nat.succ_pos _), mem_sh]
  have e : ∀ d, mvC d x = stC x 1 d := fun d => by
    unfold mvC stC
    exact Prod.ext (show d.1 + x.1 = x.1 + 1 * d.1 by omega) (show d.2 + x.2 = x.2 + 1 * d.2 by omega)
  exact ⟨fun q d hd => e d ▸ q d hd, fun q d hd => (e d).symm ▸ q d hd⟩
theorem kept_shM {cs : List Cell} (h : Rising cs) (p0 : Cell) (ps : List Cell) : keptM cs (mirr (p0 :: ps)) = shF cs p0 (p0 :: ps) (-1) := by
  refine rising_one (keptM_rising h _) (rise_rising _) fun x => ?_
  rw [mem_keptM ((mirr_len (p0 :: ps)).2 (Nat.succ_pos _)), mem_sh]
  have e : ∀ d : Cell, mvC (0 - d.1, 0 - d.2) x = stC x (-1) d := fun d => by
    unfold mvC stC
    exact Prod.ext (show 0 - d.1 + x.1 = x.1 + -1 * d.1 by omega) (show 0 - d.2 + x.2 = x.2 + -1 * d.2 by omega)
  constructor
  · intro q d hd
    rw [← e d]
    exact q _ (mem_mirr.2 ⟨d, hd, rfl⟩)
  · intro q y hy
    obtain ⟨d, hd, rfl⟩ := mem_mirr.1 hy
    rw [e d]
    exact q d hd
theorem reach_sw (cs p : List Cell) : reachF cs p = swF cs p 1 := by
  unfold reachF swF
  refine rise_eq fun x => ?_
  rw [List.mem_flatMap, List.mem_flatMap]
  have e : ∀ c : Cell, liesOn p c = p.map fun d => stC c 1 d := fun c => by
    unfold liesOn
    refine List.map_congr_left fun d _ => ?_
    unfold mvC stC
    exact Prod.ext (show d.1 + c.1 = c.1 + 1 * d.1 by omega) (show d.2 + c.2 = c.2 + 1 * d.2 by omega)
  constructor
  · rintro ⟨c, hc, hx⟩; exact ⟨c, hc, e c ▸ hx⟩
  · rintro ⟨c, hc, hx⟩; exact ⟨c, hc, (e c).symm ▸ hx⟩
theorem reach_swM (cs p : List Cell) : reachF cs (mirr p) = swF cs p (-1) := by
  unfold reachF swF
  refine rise_eq fun x => ?_
  rw [List.mem_flatMap, List.mem_flatMap]
  have e : ∀ c d : Cell, mvC (0 - d.1, 0 - d.2) c = stC c (-1) d := fun c d => by
    unfold mvC stC
    exact Prod.ext (show 0 - d.1 + c.1 = c.1 + -1 * d.1 by omega) (show 0 - d.2 + c.2 = c.2 + -1 * d.2 by omega)
  constructor
  · rintro ⟨c, hc, hx⟩
    obtain ⟨y, hy, rfl⟩ := List.mem_map.1 hx
    obtain ⟨d, hd, rfl⟩ := mem_mirr.1 hy
    exact ⟨c, hc, List.mem_map.2 ⟨d, hd, (e c d).symm⟩⟩
  · rintro ⟨c, hc, hx⟩
    obtain ⟨d, hd, rfl⟩ := List.mem_map.1 hx
    exact ⟨c, hc, List.mem_map.2 ⟨_, mem_mirr.2 ⟨d, hd, rfl⟩, e c d⟩⟩
theorem growF_eq {s : Shp} (h : Rising s.1) (p0 : Cell) (ps : List Cell) : growF s (p0 :: ps) = (if s.2 = true then shF s.1 p0 (p0 :: ps) (-1) else swF s.1 (p0 :: ps) 1, s.2) := by
  obtain ⟨cs, r⟩ := s
  unfold growF
  cases r with
  | true => rw [if_pos rfl, if_pos rfl, kept_shM h]
  | false => rw [if_neg (fun z => nomatch z), if_neg (fun z => nomatch z), reach_sw]
theorem eatF_eq {s : Shp} (h : Rising s.1) (p0 : Cell) (ps : List Cell) : eatF s (p0 :: ps) = (if s.2 = true then swF s.1 (p0 :: ps) (-1) else shF s.1 p0 (p0 :: ps) 1, s.2) := by
  obtain ⟨cs, r⟩ := s
  unfold eatF
  cases r with
  | true => rw [if_pos rfl, if_pos rfl, reach_swM]
  | false => rw [if_neg (fun z => nomatch z), if_neg (fun z => nomatch z), kept_sh h]
theorem madeF_rising : ∀ (t : Tree) {s : Shp}, Rising s.1 → Rising (madeF t s).1
  | .keep, _, h => h
  | .none, _, _ => .nil
  | .all, _, _ => .nil
  | .move d t, _, h => mvF_rising (madeF_rising t h) d
  | .both a b, _, _ => met_rising _ _ _
  | .either a b, _, _ => met_rising _ _ _
  | .grow p0 ps t, s, h => by
    show Rising (if _ then _ else _)
    split <;> exact rise_rising _
  | .eat p0 ps t, s, h => by
    show Rising (if _ then _ else _)
    split <;> exact rise_rising _
theorem doF_eq : ∀ (t : Tree) {s : Shp}, Rising s.1 → doF t s = madeF t s
  | .keep, _, _ => rfl
  | .none, _, _ => rfl
  | .all, _, _ => rfl
  | .move d t, s, h => by
    show mvF (doF t s) d = mvF (madeF t s) d
    rw [doF_eq t h]
  | .both a b, s, h => by
    show bothF (doF a s) (doF b s) = metF (madeF a s) (madeF b s) true
    rw [doF_eq a h, doF_eq b h, bothF_met (madeF_rising a h) (madeF_rising b h)]
  | .either a b, s, h => by
    show eitherF (doF a s) (doF b s) = metF (madeF a s) (madeF b s) false
    rw [doF_eq a h, doF_eq b h, eitherF_met (madeF_rising a h) (madeF_rising b h)]
  | .grow p0 ps t, s, h => by
    show growF (doF t s) (p0 :: ps) = _
    rw [doF_eq t h, growF_eq (madeF_rising t h)]
    rfl
  | .eat p0 ps t, s, h => by
    show eatF (doF t s) (p0 :: ps) = _
    rw [doF_eq t h, eatF_eq (madeF_rising t h)]
    rfl
/-! ### how many cells -/
theorem met_len (a b : Shp) (m : Bool) : (metF a b m).1.length ≤ a.1.length + b.1.length := by
  unfold metF
  refine Nat.le_trans (List.length_filter_le _ _) (Nat.le_trans (rise_len _) ?_)
  rw [List.length_append]
  exact Nat.le_refl _
theorem flat_len {α β : Type} (f : α → List β) (n : Nat) (hf : ∀ a, (f a).length = n) : ∀ l : List α, (l.flatMap f).length = l.length * n
  | [] => by simp
  | a :: l => by
    rw [List.flatMap_cons, List.length_append, hf a, flat_len f n hf l, List.length_cons, Nat.add_mul]
    omega
theorem sw_len (cs st : List Cell) (sg : Int) : (swF cs st sg).length ≤ cs.length * st.length := by
  unfold swF
  refine Nat.le_trans (rise_len _) ?_
  rw [flat_len _ st.length (fun c => by rw [List.length_map])]
  exact Nat.le_refl _
theorem sh_len (cs : List Cell) (s0 : Cell) (st : List Cell) (sg : Int) : (shF cs s0 (s0 :: st) sg).length ≤ cs.length * (s0 :: st).length := by
  refine Nat.le_trans (rise_len _) (Nat.le_trans (shQ_len _ _ _ _ _) ?_)
  rw [List.length_cons]
  exact Nat.le_mul_of_pos_right _ (Nat.succ_pos _)
def p3 : Nat → Nat
  | 0 => 30
  | k + 1 => 3 * p3 k
theorem p3_mono {a b : Nat} (h : a ≤ b) : p3 a ≤ p3 b := by
  induction h with
  | refl => exact Nat.le_refl _
  | step _ ih => exact Nat.le_trans ih (by show _ ≤ 3 * p3 _; omega)
theorem madeF_len : ∀ (t : Tree) {s : Shp}, s.1.length ≤ 30 → smallT t = true → (madeF t s).1.length ≤ p3 (dep t)
  | .keep, _, h, _ => h
  | .none, _, _, _ => Nat.zero_le _
  | .all, _, _, _ => Nat.zero_le _
  | .move d t, s, h, q => by
    have q' : (smallC d && smallT t) = true := q
    rw [Bool.and_eq_true] at q'
    have := madeF_len t h q'.2
    show ((madeF t s).1.map _).length ≤ 3 * p3 (dep t)
    rw [List.length_map]
    omega
  | .both a b, s, h, q => by
    have q' : (smallT a && smallT b) = true := q
    rw [Bool.and_eq_true] at q'
    have h1 := Nat.le_trans (madeF_len a h q'.1) (p3_mono (Nat.le_max_left (dep a) (dep b)))
    have h2 := Nat.le_trans (madeF_len b h q'.2) (p3_mono (Nat.le_max_right (dep a) (dep b)))
    have := met_len (madeF a s) (madeF b s) true
    show (metF (madeF a s) (madeF b s) true).1.length ≤ 3 * p3 (max (dep a) (dep b))
    omega
  | .either a b, s, h, q => by
    have q' : (smallT a && smallT b) = true := q
    rw [Bool.and_eq_true] at q'
    have h1 := Nat.le_trans (madeF_len a h q'.1) (p3_mono (Nat.le_max_left (dep a) (dep b)))
    have h2 := Nat.le_trans (madeF_len b h q'.2) (p3_mono (Nat.le_max_right (dep a) (dep b)))
    have := met_len (madeF a s) (madeF b s) false
    show (metF (madeF a s) (madeF b s) false).1.length ≤ 3 * p3 (max (dep a) (dep b))
    omega
  | .grow p0 ps t, s, h, q => by
    have q' : ((decide (ps.length ≤ 2) && (p0 :: ps).all smallC) && smallT t) = true := q
    rw [Bool.and_eq_true, Bool.and_eq_true] at q'
    have hp := of_decide_eq_true q'.1.1
    have h1 := madeF_len t h q'.2
    have h2 : (madeF t s).1.length * (p0 :: ps).length ≤ p3 (dep t) * 3 := Nat.mul_le_mul h1 (by rw [List.length_cons]; omega)
    show (if _ then _ else _ : List Cell).length ≤ 3 * p3 (dep t)
    have h3 := sh_len (madeF t s).1 p0 ps (-1)
    have h4 := sw_len (madeF t s).1 (p0 :: ps) 1
    split <;> omega
  | .eat p0 ps t, s, h, q => by
    have q' : ((decide (ps.length ≤ 2) && (p0 :: ps).all smallC) && smallT t) = true := q
    rw [Bool.and_eq_true, Bool.and_eq_true] at q'
    have hp := of_decide_eq_true q'.1.1
    have h1 := madeF_len t h q'.2
    have h2 : (madeF t s).1.length * (p0 :: ps).length ≤ p3 (dep t) * 3 := Nat.mul_le_mul h1 (by rw [List.length_cons]; omega)
    show (if _ then _ else _ : List Cell).length ≤ 3 * p3 (dep t)
    have h3 := sh_len (madeF t s).1 p0 ps 1
    have h4 := sw_len (madeF t s).1 (p0 :: ps) (-1)
    split <;> omega
theorem p3_le {k : Nat} (h : k ≤ 2) : p3 k ≤ 270 := p3_mono h
theorem p3_le1 {k : Nat} (h : k ≤ 1) : p3 k ≤ 90 := p3_mono h
theorem madeOk_of : ∀ (t : Tree) {s : Shp}, s.1.length ≤ 30 → smallT t = true → dep t ≤ 2 → madeOk t s
  | .keep, _, _, _, _ => trivial
  | .none, _, _, _, _ => trivial
  | .all, _, _, _, _ => trivial
  | .move d t, s, h, q, k => by
    have q' : (smallC d && smallT t) = true := q
    rw [Bool.and_eq_true] at q'
    have k' : dep t + 1 ≤ 2 := k
    have := madeF_len t h q'.2
    have := p3_le1 (show dep t ≤ 1 by omega)
    exact ⟨madeOk_of t h q'.2 (by omega), by omega⟩
  | .both a b, s, h, q, k => by
    have q' : (smallT a && smallT b) = true := q
    rw [Bool.and_eq_true] at q'
    have k' : max (dep a) (dep b) + 1 ≤ 2 := k
    have h1 := madeF_len a h q'.1
    have h2 := madeF_len b h q'.2
    have h3 := p3_le1 (show dep a ≤ 1 by omega)
    have h4 := p3_le1 (show dep b ≤ 1 by omega)
    exact ⟨madeOk_of a h q'.1 (by omega), madeOk_of b h q'.2 (by omega), by omega⟩
  | .either a b, s, h, q, k => by
    have q' : (smallT a && smallT b) = true := q
    rw [Bool.and_eq_true] at q'
    have k' : max (dep a) (dep b) + 1 ≤ 2 := k
    have h1 := madeF_len a h q'.1
    have h2 := madeF_len b h q'.2
    have h3 := p3_le1 (show dep a ≤ 1 by omega)
    have h4 := p3_le1 (show dep b ≤ 1 by omega)
    exact ⟨madeOk_of a h q'.1 (by omega), madeOk_of b h q'.2 (by omega), by omega⟩
  | .grow p0 ps t, s, h, q, k => by
    have q' : ((decide (ps.length ≤ 2) && (p0 :: ps).all smallC) && smallT t) = true := q
    rw [Bool.and_eq_true, Bool.and_eq_true] at q'
    have hp := of_decide_eq_true q'.1.1
    have k' : dep t + 1 ≤ 2 := k
    have h1 := Nat.le_trans (madeF_len t h q'.2) (p3_le1 (show dep t ≤ 1 by omega))
    have h2 : (madeF t s).1.length * (p0 :: ps).length ≤ 90 * 3 := Nat.mul_le_mul h1 (by rw [List.length_cons]; omega)
    exact ⟨madeOk_of t h q'.2 (by omega), by omega, by omega⟩
  | .eat p0 ps t, s, h, q, k => by
    have q' : ((decide (ps.length ≤ 2) && (p0 :: ps).all smallC) && smallT t) = true := q
    rw [Bool.and_eq_true, Bool.and_eq_true] at q'
    have hp := of_decide_eq_true q'.1.1
    have k' : dep t + 1 ≤ 2 := k
    have h1 := Nat.le_trans (madeF_len t h q'.2) (p3_le1 (show dep t ≤ 1 by omega))
    have h2 : (madeF t s).1.length * (p0 :: ps).length ≤ 90 * 3 := Nat.mul_le_mul h1 (by rw [List.length_cons]; omega)
    exact ⟨madeOk_of t h q'.2 (by omega), by omega, by omega⟩
theorem doOk_of : ∀ (t : Tree) {s : Shp}, Rising s.1 → s.1.length ≤ 30 → smallT t = true → dep t ≤ 2 → doOk t s
  | .keep, _, _, h, _, _ => by show _ ≤ 2000; omega
  | .none, _, _, _, _, _ => trivial
  | .all, _, _, _, _, _ => trivial
  | .move d t, s, r, h, q, k => by
    have q' : (smallC d && smallT t) = true := q
    rw [Bool.and_eq_true] at q'
    have k' : dep t + 1 ≤ 2 := k
    have := madeF_len t h q'.2
    have := p3_le1 (show dep t ≤ 1 by omega)
    exact ⟨doOk_of t r h q'.2 (by omega), by rw [doF_eq t r]; omega⟩
  | .both a b, s, r, h, q, k => by
    have l := Nat.le_trans (madeF_len (.both a b) h q) (p3_le k)
    have q' : (smallT a && smallT b) = true := q
    rw [Bool.and_eq_true] at q'
    have k' : max (dep a) (dep b) + 1 ≤ 2 := k
    have h1 := madeF_len a h q'.1
    have h2 := madeF_len b h q'.2
    have h3 := p3_le1 (show dep a ≤ 1 by omega)
    have h4 := p3_le1 (show dep b ≤ 1 by omega)
    exact ⟨⟨doOk_of a r h q'.1 (by omega), doOk_of b r h q'.2 (by omega)⟩, by rw [doF_eq a r, doF_eq b r]; omega, by rw [doF_eq _ r]; omega⟩
  | .either a b, s, r, h, q, k => by
    have l := Nat.le_trans (madeF_len (.either a b) h q) (p3_le k)
    have q' : (smallT a && smallT b) = true := q
    rw [Bool.and_eq_true] at q'
    have k' : max (dep a) (dep b) + 1 ≤ 2 := k
    have h1 := madeF_len a h q'.1
    have h2 := madeF_len b h q'.2
    have h3 := p3_le1 (show dep a ≤ 1 by omega)
    have h4 := p3_le1 (show dep b ≤ 1 by omega)
    exact ⟨⟨doOk_of a r h q'.1 (by omega), doOk_of b r h q'.2 (by omega)⟩, by rw [doF_eq a r, doF_eq b r]; omega, by rw [doF_eq _ r]; omega⟩
  | .grow p0 ps t, s, r, h, q, k => by
    have l := Nat.le_trans (madeF_len (.grow p0 ps t) h q) (p3_le k)
    have q' : ((decide (ps.length ≤ 2) && (p0 :: ps).all smallC) && smallT t) = true := q
    rw [Bool.and_eq_true, Bool.and_eq_true] at q'
    have hp := of_decide_eq_true q'.1.1
    have k' : dep t + 1 ≤ 2 := k
    have h1 := Nat.le_trans (madeF_len t h q'.2) (p3_le1 (show dep t ≤ 1 by omega))
    have h2 : (madeF t s).1.length * (p0 :: ps).length ≤ 90 * 3 := Nat.mul_le_mul h1 (by rw [List.length_cons]; omega)
    exact ⟨doOk_of t r h q'.2 (by omega), by rw [doF_eq t r]; omega, by omega, by rw [doF_eq _ r]; omega⟩
  | .eat p0 ps t, s, r, h, q, k => by
    have l := Nat.le_trans (madeF_len (.eat p0 ps t) h q) (p3_le k)
    have q' : ((decide (ps.length ≤ 2) && (p0 :: ps).all smallC) && smallT t) = true := q
    rw [Bool.and_eq_true, Bool.and_eq_true] at q'
    have hp := of_decide_eq_true q'.1.1
    have k' : dep t + 1 ≤ 2 := k
    have h1 := Nat.le_trans (madeF_len t h q'.2) (p3_le1 (show dep t ≤ 1 by omega))
    have h2 : (madeF t s).1.length * (p0 :: ps).length ≤ 90 * 3 := Nat.mul_le_mul h1 (by rw [List.length_cons]; omega)
    exact ⟨doOk_of t r h q'.2 (by omega), by rw [doF_eq t r]; omega, by omega, by rw [doF_eq _ r]; omega⟩
/-! ### how far the cells are -/
def inB (b : Nat) (c : Cell) : Prop := c.1.natAbs ≤ b ∧ c.2.natAbs ≤ b
def allB (b : Nat) (l : List Cell) : Prop := ∀ c ∈ l, inB b c
theorem allB.mono {a b : Nat} {l : List Cell} (h : allB a l) (q : a ≤ b) : allB b l := fun c m => ⟨Nat.le_trans (h c m).1 q, Nat.le_trans (h c m).2 q⟩
theorem met_B {a b : Shp} {m : Bool} {n : Nat} (ha : allB n a.1) (hb : allB n b.1) : allB n (metF a b m).1 := fun c hc => by
  rcases (mem_met.1 hc).1 with h | h
  · exact ha c h
  · exact hb c h
theorem mv_B {s : Shp} {d : Cell} {n k : Nat} (h : allB n s.1) (hd : inB k d) : allB (n + k) (mvF s d).1 := fun c hc => by
  obtain ⟨e, he, rfl⟩ := List.mem_map.1 hc
  obtain ⟨h1, h2⟩ := h e he
  obtain ⟨h3, h4⟩ := hd
  exact ⟨show (e.1 + d.1).natAbs ≤ n + k by omega, show (e.2 + d.2).natAbs ≤ n + k by omega⟩
theorem small_B {c : Cell} (h : smallC c = true) : inB 1 c := by
  unfold smallC at h
  rw [Bool.and_eq_true, decide_eq_true_iff, decide_eq_true_iff] at h
  exact h
theorem sg_abs {sg x : Int} (hs : sg = 1 ∨ sg = -1) : (sg * x).natAbs = x.natAbs := by
  rcases hs with rfl | rfl <;> omega
theorem st_B {c d : Cell} {sg : Int} (hs : sg = 1 ∨ sg = -1) {n : Nat} (h : inB n c) (hd : inB 1 d) : inB (n + 1) (stC c sg d) := by
  have e1 := sg_abs (x := d.1) hs
  have e2 := sg_abs (x := d.2) hs
  obtain ⟨h1, h2⟩ := h
  obtain ⟨h3, h4⟩ := hd
  exact ⟨show (c.1 + sg * d.1).natAbs ≤ n + 1 by omega, show (c.2 + sg * d.2).natAbs ≤ n + 1 by omega⟩
theorem spot_B {c d : Cell} {sg : Int} (hs : sg = 1 ∨ sg = -1) {n : Nat} (h : inB n c) (hd : inB 1 d) : inB (n + 1) (spotC c sg d) := by
  have e1 := sg_abs (x := d.1) hs
  have e2 := sg_abs (x := d.2) hs
  obtain ⟨h1, h2⟩ := h
  obtain ⟨h3, h4⟩ := hd
  exact ⟨show (c.1 - sg * d.1).natAbs ≤ n + 1 by omega, show (c.2 - sg * d.2).natAbs ≤ n + 1 by omega⟩
theorem sw_B {cs st : List Cell} {sg : Int} (hs : sg = 1 ∨ sg = -1) {n : Nat} (h : allB n cs) (hd : st.all smallC = true) : allB (n + 1) (swF cs st sg) := fun x hx => by
  unfold swF at hx
  rw [mem_rise, List.mem_flatMap] at hx
  obtain ⟨c, hc, hx⟩ := hx
  obtain ⟨d, hd', rfl⟩ := List.mem_map.1 hx
  exact st_B hs (h c hc) (small_B ((List.all_eq_true.1 hd) d hd'))
theorem sh_B {cs : List Cell} {s0 : Cell} {st : List Cell} {sg : Int} (hs : sg = 1 ∨ sg = -1) {n : Nat} (h : allB n cs) (hd : smallC s0 = true) : allB (n + 1) (shF cs s0 (s0 :: st) sg) := fun x hx => by
  unfold shF shQ at hx
  rw [mem_rise, List.mem_filter] at hx
  obtain ⟨c, hc, rfl⟩ := List.mem_map.1 hx.1
  exact spot_B hs (h c hc) (small_B hd)
theorem madeF_B : ∀ (t : Tree) {s : Shp} {n : Nat}, allB n s.1 → smallT t = true → allB (n + dep t) (madeF t s).1
  | .keep, _, _, h, _ => h
  | .none, _, _, _, _ => fun _ z => nomatch z
  | .all, _, _, _, _ => fun _ z => nomatch z
  | .move d t, s, n, h, q => by
    have q' : (smallC d && smallT t) = true := q
    rw [Bool.and_eq_true] at q'
    exact (mv_B (madeF_B t h q'.2) (small_B q'.1) : allB (n + dep t + 1) (mvF (madeF t s) d).1)
  | .both a b, s, n, h, q => by
    have q' : (smallT a && smallT b) = true := q
    rw [Bool.and_eq_true] at q'
    have k : dep (.both a b) = max (dep a) (dep b) + 1 := rfl
    exact met_B ((madeF_B a h q'.1).mono (by rw [k]; omega)) ((madeF_B b h q'.2).mono (by rw [k]; omega))
  | .either a b, s, n, h, q => by
    have q' : (smallT a && smallT b) = true := q
    rw [Bool.and_eq_true] at q'
    have k : dep (.either a b) = max (dep a) (dep b) + 1 := rfl
    exact met_B ((madeF_B a h q'.1).mono (by rw [k]; omega)) ((madeF_B b h q'.2).mono (by rw [k]; omega))
  | .grow p0 ps t, s, n, h, q => by
    have q' : ((decide (ps.length ≤ 2) && (p0 :: ps).all smallC) && smallT t) = true := q
    rw [Bool.and_eq_true, Bool.and_eq_true] at q'
    have i := madeF_B t h q'.2
    have s0 : smallC p0 = true := (List.all_eq_true.1 q'.1.2) p0 List.mem_cons_self
    show allB (n + dep t + 1) (if _ then _ else _ : List Cell)
    split
    · exact sh_B (.inr rfl) i s0
    · exact sw_B (.inl rfl) i q'.1.2
  | .eat p0 ps t, s, n, h, q => by
    have q' : ((decide (ps.length ≤ 2) && (p0 :: ps).all smallC) && smallT t) = true := q
    rw [Bool.and_eq_true, Bool.and_eq_true] at q'
    have i := madeF_B t h q'.2
    have s0 : smallC p0 = true := (List.all_eq_true.1 q'.1.2) p0 List.mem_cons_self
    show allB (n + dep t + 1) (if _ then _ else _ : List Cell)
    split
    · exact sw_B (.inr rfl) i q'.1.2
    · exact sh_B (.inl rfl) i s0
theorem rotN_B : ∀ (k : Nat) {c : Cell} {n : Nat}, inB n c → inB n (rotN k c)
  | 0, _, _, h => h
  | k + 1, c, n, h => by
    obtain ⟨h1, h2⟩ := rotN_B k h
    exact ⟨h2, show (0 - (rotN k c).1).natAbs ≤ n by omega⟩
theorem turnC_B {c : Cell} {t : Int} {n : Nat} (h : inB n c) : inB n (turnC c t) := by
  unfold turnC
  refine rotN_B _ ?_
  split
  · exact ⟨h.1, show (0 - c.2).natAbs ≤ n by have := h.2; omega⟩
  · exact h
theorem turn_B {s : Shp} {t : Int} {n : Nat} (h : allB n s.1) : allB n (turnF s t).1 := fun x hx => by
  unfold turnF at hx
  obtain ⟨c, hc, rfl⟩ := List.mem_map.1 (mem_rise.1 hx)
  exact turnC_B (h c hc)
/-! ### the deeds that are drawn -/
theorem near_B (n : Int) : inB 1000000000 (nearF n).2 := by
  have h0 : 0 ≤ n % 8 := by omega
  have h1 : n % 8 < 8 := by omega
  have hs : 0 < nearS (n % 8) ∧ nearS (n % 8) ≤ 2000000001 := by
    generalize n % 8 = w at *
    have : w = 0 ∨ w = 1 ∨ w = 2 ∨ w = 3 ∨ w = 4 ∨ w = 5 ∨ w = 6 ∨ w = 7 := by omega
    rcases this with rfl | rfl | rfl | rfl | rfl | rfl | rfl | rfl <;> exact ⟨by decide, by decide⟩
  unfold nearF inB
  simp only
  generalize nearS (n % 8) = z at *
  have a1 := Int.emod_nonneg (n / 8) (Int.ne_of_gt hs.1)
  have a2 := Int.emod_lt_of_pos (n / 8) hs.1
  have b1 := Int.emod_nonneg (n / 8 / z) (Int.ne_of_gt hs.1)
  have b2 := Int.emod_lt_of_pos (n / 8 / z) hs.1
  generalize n / 8 % z = x at *
  generalize n / 8 / z % z = y at *
  constructor <;> omega
theorem pieceI_small (n : Int) : ∀ (k : Nat) (c : Cell), c ∈ (pieceI n k).2 → smallC c = true
  | 0, _, h => nomatch h
  | k + 1, c, h => by
    rw [pieceI_more] at h
    rcases List.mem_append.1 h with h | h
    · exact pieceI_small n k c h
    · have e := List.mem_singleton.1 h
      subst e
      unfold smallC
      simp only
      generalize (pieceI n k).1 = z
      generalize z / 3 = y
      rw [Bool.and_eq_true, decide_eq_true_iff, decide_eq_true_iff]
      omega
theorem piece_good (n : Int) {m : Int} (h0 : 0 < m) (h1 : m ≤ 3) : goodP ((pieceF n m).2.headD (0, 0) :: (pieceF n m).2.tail) := by
  obtain ⟨s0, st, e⟩ := pieceF_ne n h0
  have e2 : (pieceF n m).2.headD (0, 0) :: (pieceF n m).2.tail = (pieceF n m).2 := by rw [e]; rfl
  rw [e2]
  unfold pieceF
  refine ⟨rise_rising _, Nat.le_trans (rise_len _) ?_, List.all_eq_true.2 fun c hc => pieceI_small _ _ _ (mem_rise.1 hc)⟩
  rw [pieceI_len]
  have := Int.emod_lt_of_pos n h0
  omega
theorem leaf_good (w : Int) : dep (leafF w) = 0 ∧ goodT (leafF w) ∧ nodes (leafF w) = 1 ∧ (wordsF (leafF w)).length = 1 := by
  unfold leafF
  split
  · exact ⟨rfl, trivial, rfl, rfl⟩
  · split <;> exact ⟨rfl, trivial, rfl, rfl⟩
/-- how many words -/
theorem words_nodes : ∀ (t : Tree), goodT t → (wordsF t).length ≤ 8 * nodes t
  | .keep, _ => by show 1 ≤ 8 * 1; decide
  | .none, _ => by show 1 ≤ 8 * 1; decide
  | .all, _ => by show 1 ≤ 8 * 1; decide
  | .move d t, h => by
    have := words_nodes t h.2
    show (_ ++ wordsF t).length ≤ 8 * (nodes t + 1)
    rw [List.length_append, List.length_cons, List.length_cons, List.length_cons, List.length_nil]
    omega
  | .eat p0 ps t, h => by
    have := words_nodes t h.2
    have l := h.1.2.1
    show ((_ ++ cellW (p0 :: ps)) ++ wordsF t).length ≤ 8 * (nodes t + 1)
    rw [List.length_append, List.length_append, cellW_len, List.length_cons, List.length_cons, List.length_nil]
    omega
  | .grow p0 ps t, h => by
    have := words_nodes t h.2
    have l := h.1.2.1
    show ((_ ++ cellW (p0 :: ps)) ++ wordsF t).length ≤ 8 * (nodes t + 1)
    rw [List.length_append, List.length_append, cellW_len, List.length_cons, List.length_cons, List.length_nil]
    omega
  | .both a b, h => by
    have := words_nodes a h.1
    have := words_nodes b h.2
    show ((_ ++ wordsF a) ++ wordsF b).length ≤ 8 * (nodes a + nodes b + 1)
    rw [List.length_append, List.length_append, List.length_cons, List.length_nil]
    omega
  | .either a b, h => by
    have := words_nodes a h.1
    have := words_nodes b h.2
    show ((_ ++ wordsF a) ++ wordsF b).length ≤ 8 * (nodes a + nodes b + 1)
    rw [List.length_append, List.length_append, List.length_cons, List.length_nil]
    omega
def n2 : Nat → Nat
  | 0 => 1
  | r + 1 => 2 * n2 r + 1
theorem tree_good : ∀ (r : Nat) (n : Int), dep (treeF r n).2 ≤ r ∧ goodT (treeF r n).2 ∧ nodes (treeF r n).2 ≤ n2 r
  | 0, n => by
    have l := leaf_good (n / 13 % 9)
    show dep (leafF (n / 13 % 9)) ≤ 0 ∧ goodT (leafF (n / 13 % 9)) ∧ nodes (leafF (n / 13 % 9)) ≤ 1
    exact ⟨by omega, l.2.1, by omega⟩
  | r + 1, n => by
    have n1 : n2 (r + 1) = 2 * n2 r + 1 := rfl
    unfold treeF
    split
    · have l := leaf_good (n / 13 % 9)
      exact ⟨by show dep (leafF (n / 13 % 9)) ≤ r + 1; omega, l.2.1, by show nodes (leafF (n / 13 % 9)) ≤ n2 (r + 1); omega⟩
    · split
      · have i := tree_good r (pieceF (n / 13) 1).1
        have g := piece_good (n / 13) (m := 1) (by decide) (by decide)
        refine ⟨?_, ⟨(List.all_eq_true.1 g.2.2) _ List.mem_cons_self, i.2.1⟩, ?_⟩
        · show dep (treeF r (pieceF (n / 13) 1).1).2 + 1 ≤ r + 1
          omega
        · show nodes (treeF r (pieceF (n / 13) 1).1).2 + 1 ≤ n2 (r + 1)
          omega
      · split
        · have i := tree_good r (pieceF (n / 13) 3).1
          have g := piece_good (n / 13) (m := 3) (by decide) (by decide)
          simp only
          split
          · refine ⟨?_, ⟨g, i.2.1⟩, ?_⟩
            · show dep (treeF r (pieceF (n / 13) 3).1).2 + 1 ≤ r + 1
              omega
            · show nodes (treeF r (pieceF (n / 13) 3).1).2 + 1 ≤ n2 (r + 1)
              omega
          · refine ⟨?_, ⟨g, i.2.1⟩, ?_⟩
            · show dep (treeF r (pieceF (n / 13) 3).1).2 + 1 ≤ r + 1
              omega
            · show nodes (treeF r (pieceF (n / 13) 3).1).2 + 1 ≤ n2 (r + 1)
              omega
        · have i := tree_good r (n / 13)
          have j := tree_good r (treeF r (n / 13)).1
          simp only
          split
          · refine ⟨?_, ⟨i.2.1, j.2.1⟩, ?_⟩
            · show max (dep (treeF r (n / 13)).2) (dep (treeF r (treeF r (n / 13)).1).2) + 1 ≤ r + 1
              omega
            · show nodes (treeF r (n / 13)).2 + nodes (treeF r (treeF r (n / 13)).1).2 + 1 ≤ n2 (r + 1)
              omega
          · refine ⟨?_, ⟨i.2.1, j.2.1⟩, ?_⟩
            · show max (dep (treeF r (n / 13)).2) (dep (treeF r (treeF r (n / 13)).1).2) + 1 ≤ r + 1
              omega
            · show nodes (treeF r (n / 13)).2 + nodes (treeF r (treeF r (n / 13)).1).2 + 1 ≤ n2 (r + 1)
              omega
/-! ### the deeds, and what they make -/
def rowD : Deed → RowK
  | .put c => .cell "put" c
  | .take c => .cell "take" c
  | .move c => .cell "move" c
  | .turn t => .turn t
  | .out => .bare "out"
  | .plan t => .plan t
def goodD : Deed → Prop
  | .put c => inB 1000000000 c
  | .take c => inB 1000000000 c
  | .move c => inB 1000000000 c
  | .turn t => 0 ≤ t ∧ t < 8
  | .out => True
  | .plan t => dep t ≤ 2 ∧ goodT t ∧ nodes t ≤ 7
theorem deed_good (c : Int) : goodD (deedF c) := by
  unfold deedF
  simp only
  generalize dealF c 18 = n
  have nb := near_B (n / 12)
  have tg := tree_good 2 (nearF (n / 12)).1
  generalize treeF 2 (nearF (n / 12)).1 = tr at *
  by_cases h1 : n % 12 < 5
  · rw [if_pos h1]; exact nb
  · rw [if_neg h1]
    by_cases h2 : n % 12 < 7
    · rw [if_pos h2]; exact nb
    · rw [if_neg h2]
      by_cases h3 : n % 12 = 7
      · rw [if_pos h3]; exact nb
      · rw [if_neg h3]
        by_cases h4 : n % 12 = 8
        · rw [if_pos h4]
          show 0 ≤ tr.1 % 8 ∧ tr.1 % 8 < 8
          omega
        · rw [if_neg h4]
          by_cases h5 : n % 12 = 9
          · rw [if_pos h5]; exact trivial
          · rw [if_neg h5]; exact tg
theorem small_of {d : Deed} (h : goodD d) : smallD d := by
  have e : ∀ c : Cell, inB 1000000000 c → c.1.natAbs < 10 ^ 14 ∧ c.2.natAbs < 10 ^ 14 := fun c q => by
    obtain ⟨q1, q2⟩ := q
    constructor <;> omega
  cases d with
  | put c => exact e c h
  | take c => exact e c h
  | move c => exact e c h
  | turn t => exact h
  | out => exact trivial
  | plan t =>
    obtain ⟨h1, h2, h3⟩ := h
    have := words_nodes t h2
    exact ⟨h1, good_small h2, by omega⟩
theorem far_of {n : Nat} {c : Cell} (h : inB n c) (q : n ≤ 1000000000000) : farC c = true := by
  unfold farC
  rw [Bool.and_eq_true, decide_eq_true_iff, decide_eq_true_iff]
  exact ⟨Nat.le_trans h.1 q, Nat.le_trans h.2 q⟩
theorem row_of {d : Deed} (h : goodD d) : rowOk 2 (rowD d) := by
  cases d with
  | put c => exact ⟨by decide, far_of h (by decide)⟩
  | take c => exact ⟨by decide, far_of h (by decide)⟩
  | move c => exact ⟨by decide, far_of h (by decide)⟩
  | turn t => exact h
  | out => exact (by decide : ("out" : Str) ∈ BAREL)
  | plan t =>
    obtain ⟨h1, h2, h3⟩ := h
    have := words_nodes t h2
    exact ⟨h1, by omega, h2, by omega, by omega⟩
/-- a shape as the law's are: rising, few cells, none too far -/
structure GS (n : Nat) (s : Shp) : Prop where
  ri : Rising s.1
  le : s.1.length ≤ 30
  bd : allB n s.1
theorem GS.mono {n m : Nat} {s : Shp} (h : GS n s) (q : n ≤ m) : GS m s := ⟨h.ri, h.le, h.bd.mono q⟩
theorem due_ok {d : Deed} {s : Shp} {n : Nat} (g : GS n s) (h : goodD d) : dueOk d s := by
  cases d with
  | plan t => exact ⟨h.1, madeOk_of t g.le (good_small h.2.1) h.1⟩
  | _ => trivial
theorem ch_ok {d : Deed} {s : Shp} {n : Nat} (g : GS n s) (h : goodD d) : chOk 2 s (rowD d) := by
  cases d with
  | put c => exact .inl rfl
  | take c => exact .inr (.inl rfl)
  | move c => exact .inr (.inr rfl)
  | turn t => exact h
  | out => exact (rfl : ("out" : Str) = "out")
  | plan t => exact ⟨h.1, doOk_of t g.ri g.le (good_small h.2.1) h.1⟩
theorem one_rising (c : Cell) : Rising [c] := List.pairwise_singleton lt2 c
theorem ch_due {d : Deed} {s : Shp} {n : Nat} (g : GS n s) : chF s (rowD d) = dueF s d := by
  cases d with
  | put c =>
    show (if ("put" : Str) = "put" then eitherF s ([c], false) else if ("put" : Str) = "take" then bothF s ([c], true) else mvF s c) = metF s ([c], false) false
    rw [if_pos rfl]
    exact eitherF_met g.ri (one_rising c)
  | take c =>
    show (if ("take" : Str) = "put" then eitherF s ([c], false) else if ("take" : Str) = "take" then bothF s ([c], true) else mvF s c) = metF s ([c], true) true
    rw [if_neg (by decide), if_pos rfl]
    exact bothF_met g.ri (one_rising c)
  | move c =>
    show (if ("move" : Str) = "put" then eitherF s ([c], false) else if ("move" : Str) = "take" then bothF s ([c], true) else mvF s c) = mvF s c
    rw [if_neg (by decide), if_neg (by decide)]
  | turn t => rfl
  | out => rfl
  | plan t => exact doF_eq t g.ri
theorem due_rising {d : Deed} {s : Shp} {n : Nat} (g : GS n s) : Rising (dueF s d).1 := by
  cases d with
  | put c => exact met_rising _ _ _
  | take c => exact met_rising _ _ _
  | move c => exact mvF_rising g.ri c
  | turn t => exact rise_rising _
  | out => exact g.ri
  | plan t => exact madeF_rising t g.ri
theorem due_B {d : Deed} {s : Shp} {n : Nat} (g : GS n s) (h : goodD d) : allB (n + 1000000000) (dueF s d).1 := by
  have one : ∀ {c : Cell}, inB 1000000000 c → allB (n + 1000000000) [c] := fun {c} q x hx => by
    rw [List.mem_singleton.1 hx]
    obtain ⟨q1, q2⟩ := q
    exact ⟨by omega, by omega⟩
  cases d with
  | put c => exact met_B (g.bd.mono (by omega)) (one h)
  | take c => exact met_B (g.bd.mono (by omega)) (one h)
  | move c => exact mv_B g.bd h
  | turn t => exact turn_B (g.bd.mono (by omega))
  | out => exact g.bd.mono (by omega)
  | plan t => exact (madeF_B t g.bd (good_small h.2.1)).mono (by have := h.1; omega)
theorem due_GS {d : Deed} {s : Shp} {n : Nat} (g : GS n s) (h : goodD d) (l : (dueF s d).1.length < 31) : GS (n + 1000000000) (dueF s d) := ⟨due_rising g, by omega, due_B g h⟩
theorem all_far {l : List Cell} {n : Nat} (h : allB n l) (q : n ≤ 1000000000000) : l.all farC = true := List.all_eq_true.2 fun c hc => far_of (h c hc) q
end K91
/-! ==== K33 -/
set_option maxRecDepth 100000
set_option maxHeartbeats 4000000
namespace K91
open PySem PySem.Spec PyProof.Rows L2 SG DL
variable {P : Program} {w : World} {K : PySem.W.Frag} {mg : Str → Option Value} {base : Heap}
/-! ### rows as texts -/
theorem row_bare (x : Str) : rowT (.bare x) = x := by
  show Txt.join " " [x] = x
  rw [TL.join_eq]
  rfl
theorem join3 (x r c : Str) : Txt.join " " [x, r, c] = (x ++ " ") ++ ((r ++ " ") ++ c) := by
  rw [TL.join_eq]
  rfl
theorem join2 (x r : Str) : Txt.join " " [x, r] = (x ++ " ") ++ r := by
  rw [TL.join_eq]
  rfl
theorem row_cell (x : Str) (c : Cell) : rowT (.cell x c) = (x ++ " ") ++ ((numT c.1 ++ " ") ++ numT c.2) := join3 _ _ _
theorem row_pic (c : Cell) : rowT (.pic c) = ("show " ++ ((numT c.1 ++ " ") ++ numT c.2)) ++ " 1 1" := by
  show Txt.join " " ["show", numT c.1, numT c.2, numT 1, numT 1] = _
  have e : numT 1 = "1" := by decide +kernel
  have e1 : TL.tl (" 1 1" : Str) = TL.tl (" " : Str) ++ (TL.tl ("1" : Str) ++ (TL.tl (" " : Str) ++ TL.tl ("1" : Str))) := by decide +kernel
  have e2 : TL.tl ("show " : Str) = TL.tl ("show" : Str) ++ TL.tl (" " : Str) := by decide +kernel
  rw [e, TL.join_eq]
  refine TL.ext_tl ?_
  rw [TL.tl_join]
  simp only [TL.tl_append, List.map_cons, List.map_nil, TL.joinL, List.append_assoc, e1, e2]
theorem row_why (c : Cell) : rowT (.why c) = ("why " ++ ((numT c.1 ++ " ") ++ numT c.2)) ++ " keep" := by
  show Txt.join " " ["why", numT c.1, numT c.2, "keep"] = _
  have e1 : TL.tl (" keep" : Str) = TL.tl (" " : Str) ++ TL.tl ("keep" : Str) := by decide +kernel
  have e2 : TL.tl ("why " : Str) = TL.tl ("why" : Str) ++ TL.tl (" " : Str) := by decide +kernel
  rw [TL.join_eq]
  refine TL.ext_tl ?_
  rw [TL.tl_join]
  simp only [TL.tl_append, List.map_cons, List.map_nil, TL.joinL, List.append_assoc, e1, e2]
theorem far_lt {c : Cell} (h : farC c = true) : c.1.natAbs < 10 ^ 13 ∧ c.2.natAbs < 10 ^ 13 := by
  unfold farC at h
  rw [Bool.and_eq_true, decide_eq_true_iff, decide_eq_true_iff] at h
  constructor <;> omega
theorem str_app_len (a b : Str) : (a ++ b).length = a.length + b.length := by
  show (a ++ b).cps.size = a.cps.size + b.cps.size
  rw [← Array.length_toList, ← Array.length_toList, ← Array.length_toList]
  show (TL.tl (a ++ b)).length = _
  rw [TL.tl_append, List.length_append]
theorem if_strD {m : Bool} {x y : Str} : (if m = true then PyData.str y else PyData.str x) = .str (if m = true then y else x) := by cases m <;> rfl
theorem at_last {α : Type} (l : List α) (x : α) : L2.atI (l ++ [x]) (-1) = some x := by
  unfold L2.atI
  have e : ixN (l ++ [x]).length (-1) = some l.length := by
    unfold ixN
    rw [List.length_append, List.length_cons, List.length_nil]
    rw [if_neg (by omega), if_pos (by omega)]
    congr 1
    omega
  rw [e]
  show (l ++ [x])[l.length]? = some x
  rw [List.getElem?_append_right (Nat.le_refl _), Nat.sub_self]
  rfl
theorem es_dot {ρ : Rho} {tm : TE} {m : Bool} (h : EvS tm ρ (.im (.bool m))) : EvS (tOp (rIx K) (tC (.str ".#")) (tCB xInt (tCons tm tNil))) ρ (.im (.str (if m = true then "#" else "."))) := by
  refine es_to ?_ (es_op es_str (es_cb (ea_cons h ea_nil) c_intB) (s_ixS (c := if m = true then 35 else 46) (by decide) (by cases m <;> rfl)))
  cases m <;> rfl

/-! ### _law_stands -/
theorem sc_law_stands : FnScope ["desk", "past", "some", "cells", "rest", "spots", "shape", "row", "column", "there", "said"] ["desk", "past", "some"] (defScope s_law_stands) := ⟨rfl, rfl, rfl, by decide +kernel, rfl, by decide +kernel, by decide +kernel⟩
def t_law_stands (K : PySem.W.Frag) (P : Program) (w : World) : TS := tSeq (tAsg (tOp (rIx K) (tVar 1) (tUn (rU fun i => .int (-i)) (tC (.int 1)))) (gTup K 2 (gCons (gName 3) (gCons (gName 4) (gNil))))) (tSeq (tIfS (tOr (tTest (tOp (rNeD K) (tMeth (He.ga K "Desk") "shape" (spDS K) [] E0 (tVar 0) tNil) (tOp (rIx K) (tVar 1) (tUn (rU fun i => .int (-i)) (tC (.int 1)))))) (tTest (tOp (rNeD K) (tMeth (He.ga K "Desk") "say" (spSay K) [] E0 (tVar 0) (tCons (tC (.str "deeds")) (tNil))) (tCB (xStr) (tCons (tOp (rI0 fun i j => .int (i - j)) (tCB (xLen K) (tCons (tVar 1) (tNil))) (tC (.int 1))) (tNil)))))) (tRet (tC (.bl false))) (tNext)) (tSeq (tIfS (tTest (tOp (rNeD K) (tMeth (He.ga K "Desk") "say" (spSay K) [] E0 (tVar 0) (tCons (tC (.str "count")) (tNil))) (tOp (rIx K) (tLst (tCons (tCB (xStr) (tCons (tCB (xLen K) (tCons (tVar 3) (tNil))) (tNil))) (tCons (tC (.str "endless")) (tNil)))) (tCB (xInt) (tCons (tVar 4) (tNil)))))) (tRet (tC (.bl false))) (tNext)) (tSeq (tAsg (tLst (tCons (tTup (tCons (tC (.int 0)) (tCons (tC (.int 0)) (tNil)))) (tNil))) (gName 5)) (tSeq (tFor (iList K (tVar 2)) (gName 6) (tDrop (tBM K "list" ((rExtT K)) (tVar 5) (tCons (tSl (rSlA K) (tOp (rIx K) (tVar 6) (tC (.int 0))) (tNoPart) (tPart (tC (.int 1)))) (tNil))))) (tSeq (tFor (iList K (tVar 5)) (gTup K 2 (gCons (gName 7) (gCons (gName 8) (gNil)))) (tSeq (tAsg (tOp (rNeD K) (tOp (xIn K false) (tTup (tCons (tVar 7) (tCons (tVar 8) (tNil)))) (tVar 3)) (tVar 4)) (gName 9)) (tSeq (tAsg (tOp (xAdd K) (tOp (xAdd K) (tCB (xStr) (tCons (tVar 7) (tNil))) (tC (.str " "))) (tCB (xStr) (tCons (tVar 8) (tNil)))) (gName 10)) (tSeq (tIfS (tTest (tOp (rNeD K) (tMeth (He.ga K "Desk") "say" (spSay K) [] E0 (tVar 0) (tCons (tOp (xAdd K) (tC (.str "has ")) (tVar 10)) (tNil))) (tOp (rIx K) (tLst (tCons (tC (.str "no")) (tCons (tC (.str "yes")) (tNil)))) (tCB (xInt) (tCons (tVar 9) (tNil)))))) (tRet (tC (.bl false))) (tNext)) (tSeq (tIfS (tTest (tOp (rNeD K) (tMeth (He.ga K "Desk") "say" (spSay K) [] E0 (tVar 0) (tCons (tOp (xAdd K) (tOp (xAdd K) (tC (.str "show ")) (tVar 10)) (tC (.str " 1 1"))) (tNil))) (tOp (rIx K) (tC (.str ".#")) (tCB (xInt) (tCons (tVar 9) (tNil)))))) (tRet (tC (.bl false))) (tNext)) (tIfS (tTest (tOp (rNeD K) (tMeth (He.ga K "Desk") "say" (spSay K) [] E0 (tVar 0) (tCons (tOp (xAdd K) (tOp (xAdd K) (tC (.str "why ")) (tVar 10)) (tC (.str " keep"))) (tNil))) (tOp (rIx K) (tLst (tCons (tC (.str "bar 0 0")) (tCons (tC (.str "piece 0 0")) (tNil)))) (tCB (xInt) (tCons (tVar 9) (tNil)))))) (tRet (tC (.bl false))) (tNext))))))) (tRet (tC (.bl true))))))))
section
variable {now : Shp} {pst : List Shp} {a dx pl : Addr}
def rhoS (K : PySem.W.Frag) (a : Addr) (now : Shp) (pst someL : List Shp) (x5 x7 x8 x9 x10 : Option SV) : Rho := [some (.rf a), some (.ro ((pst ++ [now]).map shD)), some (.ro (someL.map shD)), some (.im (csD now.1)), some (.im (.bool now.2)), x5, none, x7, x8, x9, x10]
theorem row_far (c : Cell) (h : farC c = true) (x : Str) (hx : x ∈ OFCL) : rowOk 2 (.cell x c) := ⟨hx, h⟩
theorem say_txt {r : RowK} {x : Str} (e : rowT r = x) {ρ : Rho} {te : TE} (h : EvS te ρ (.im (.str x))) : EvS te ρ (.im (.str (rowT r))) := by
  rw [e]
  exact h
theorem no_ne (x : Str) {y : Str} (e : x = y) : (!PyData.eqv (.str x) (.str y)) = false := by
  rw [str_eqv, decide_eq_true e] <;> rfl
theorem turn_stands (someL : List Shp) (ds : List PyData) (c : Cell) (hl : now.1.length < 100000) (hp : pst.length < 1000) (hf : farC c = true) :
    RunD K now pst a dx pl (tSeq (tAsg (tOp (rNeD K) (tOp (xIn K false) (tTup (tCons (tVar 7) (tCons (tVar 8) (tNil)))) (tVar 3)) (tVar 4)) (gName 9)) (tSeq (tAsg (tOp (xAdd K) (tOp (xAdd K) (tCB (xStr) (tCons (tVar 7) (tNil))) (tC (.str " "))) (tCB (xStr) (tCons (tVar 8) (tNil)))) (gName 10)) (tSeq (tIfS (tTest (tOp (rNeD K) (tMeth (He.ga K "Desk") "say" (spSay K) [] E0 (tVar 0) (tCons (tOp (xAdd K) (tC (.str "has ")) (tVar 10)) (tNil))) (tOp (rIx K) (tLst (tCons (tC (.str "no")) (tCons (tC (.str "yes")) (tNil)))) (tCB (xInt) (tCons (tVar 9) (tNil)))))) (tRet (tC (.bl false))) (tNext)) (tSeq (tIfS (tTest (tOp (rNeD K) (tMeth (He.ga K "Desk") "say" (spSay K) [] E0 (tVar 0) (tCons (tOp (xAdd K) (tOp (xAdd K) (tC (.str "show ")) (tVar 10)) (tC (.str " 1 1"))) (tNil))) (tOp (rIx K) (tC (.str ".#")) (tCB (xInt) (tCons (tVar 9) (tNil)))))) (tRet (tC (.bl false))) (tNext)) (tIfS (tTest (tOp (rNeD K) (tMeth (He.ga K "Desk") "say" (spSay K) [] E0 (tVar 0) (tCons (tOp (xAdd K) (tOp (xAdd K) (tC (.str "why ")) (tVar 10)) (tC (.str " keep"))) (tNil))) (tOp (rIx K) (tLst (tCons (tC (.str "bar 0 0")) (tCons (tC (.str "piece 0 0")) (tNil)))) (tCB (xInt) (tCons (tVar 9) (tNil)))))) (tRet (tC (.bl false))) (tNext)))))) (rhoS K a now pst someL (some (.ro ds)) (some (.im (.int c.1))) (some (.im (.int c.2))) none none) (.nx (rhoS K a now pst someL (some (.ro ds)) none none none none)) := by
  have f := far_lt hf
  have l1 := num_len (by decide) f.1
  have l2 := num_len (by decide) f.2
  have lb : (" " : Str).length = 1 := by decide +kernel
  have la := str_app_len (numT c.1) " "
  have lc := str_app_len (numT c.1 ++ " ") (numT c.2)
  have lh : ("has " : Str).length = 4 := by decide +kernel
  have ls : ("show " : Str).length = 5 := by decide +kernel
  have lw : ("why " : Str).length = 4 := by decide +kernel
  have le : (" 1 1" : Str).length = 4 := by decide +kernel
  have lk : (" keep" : Str).length = 5 := by decide +kernel
  have ld := str_app_len "show " ((numT c.1 ++ " ") ++ numT c.2)
  have lg := str_app_len "why " ((numT c.1 ++ " ") ++ numT c.2)
  refine rd_fg [7, 8, 9, 10] (ρ1 := rhoS K a now pst someL (some (.ro ds)) (some (.im (.int c.1))) (some (.im (.int c.2))) (some (.im (.bool (hasB now c)))) (some (.im (.str ((numT c.1 ++ " ") ++ numT c.2))))) ?_
  refine rd_seq (ρ1 := rhoS K a now pst someL (some (.ro ds)) (some (.im (.int c.1))) (some (.im (.int c.2))) (some (.im (.bool (hasB now c)))) none) (rd_asgIm (i := 9) (d := .bool (hasB now c)) (has_in (s := now) (c := c) (es_tup (ds := [.int c.1, .int c.2]) (ea_cons (es_im rfl) (ea_cons (es_im rfl) ea_nil))) (es_im rfl) (es_im rfl))) ?_
  refine rd_seq (ρ1 := rhoS K a now pst someL (some (.ro ds)) (some (.im (.int c.1))) (some (.im (.int c.2))) (some (.im (.bool (hasB now c)))) (some (.im (.str ((numT c.1 ++ " ") ++ numT c.2))))) (rd_asgIm (i := 10) (d := .str ((numT c.1 ++ " ") ++ numT c.2)) (es_op (es_op (es_cb (ea_cons (es_im rfl) ea_nil) (c_str (small_log (by omega)))) es_str (s_addS (by show (numT c.1).length + _ ≤ _; omega))) (es_cb (ea_cons (es_im rfl) ea_nil) (c_str (small_log (by omega)))) (s_addS (by show (numT c.1 ++ " ").length + (numT c.2).length ≤ _; omega)))) ?_
  refine rd_ifDNo (edt_to ?_ (edt_test (ed_ne (ed_say (i := 0) (r := .cell "has" c) (ans := anF now (.cell "has" c)) rfl (say_txt (row_cell "has" c) (es_to (by rw [show (("has" : Str) ++ " ") = "has " by decide +kernel]) (es_op (es_str (s := "has ")) (es_im (d := .str ((numT c.1 ++ " ") ++ numT c.2)) rfl) (s_addS (by omega))))) (row_far c hf "has" (by decide)) hp (.ask (r := .cell "has" c) rfl hl)) (es_to (congrArg SV.im if_strD) (es_two (x := .str "no") (y := .str "yes") es_str es_str (es_im rfl))) ?_ ?_))) ?_
  · exact no_ne _ rfl
  · refine str_shaped ?_
    show PyData.strOk (if hasB now c = true then "yes" else "no") = true
    split <;> decide +kernel
  · refine str_shaped ?_
    split <;> decide +kernel
  refine rd_ifDNo (edt_to ?_ (edt_test (ed_ne (ed_say (i := 0) (r := .pic c) (ans := anF now (.pic c)) rfl (say_txt (row_pic c) (es_op (es_op (es_str (s := "show ")) (es_im (d := .str ((numT c.1 ++ " ") ++ numT c.2)) rfl) (s_addS (by omega))) (es_str (s := " 1 1")) (s_addS (by omega)))) hf hp (.ask (r := .pic c) hf hl)) (es_dot (es_im rfl)) ?_ ?_))) ?_
  · exact no_ne _ rfl
  · refine str_shaped ?_
    show PyData.strOk (if hasB now c = true then "#" else ".") = true
    split <;> decide +kernel
  · refine str_shaped ?_
    split <;> decide +kernel
  refine rd_ifD (b := false) (edt_to ?_ (edt_test (ed_ne (ed_say (i := 0) (r := .why c) (ans := anF now (.why c)) rfl (say_txt (row_why c) (es_op (es_op (es_str (s := "why ")) (es_im (d := .str ((numT c.1 ++ " ") ++ numT c.2)) rfl) (s_addS (by omega))) (es_str (s := " keep")) (s_addS (by omega)))) hf hp (.ask (r := .why c) trivial hl)) (es_to (congrArg SV.im if_strD) (es_two (x := .str "bar 0 0") (y := .str "piece 0 0") es_str es_str (es_im rfl))) ?_ ?_))) (fun z => nomatch z) fun _ => rd_next
  · refine no_ne _ ?_
    show Txt.join " " [if hasB now c = true then "piece" else "bar", numT 0, numT 0] = _
    split <;> decide +kernel
  · refine str_shaped ?_
    show PyData.strOk (Txt.join " " [if hasB now c = true then "piece" else "bar", numT 0, numT 0]) = true
    split <;> decide +kernel
  · refine str_shaped ?_
    split <;> decide +kernel
def spotsL (l : List Shp) : List Cell := (0, 0) :: l.flatMap fun s => s.1.take 1
theorem spots_len : ∀ l : List Shp, (l.flatMap fun s => s.1.take 1).length ≤ l.length
  | [] => Nat.le_refl _
  | s :: l => by
    have := spots_len l
    rw [List.flatMap_cons, List.length_append, List.length_take, List.length_cons]
    omega
theorem run_stands (P : Program) (w : World) (someL : List Shp) (hl : now.1.length < 100000) (hp : pst.length < 1000) (hs : someL.length ≤ 10) (hf : ∀ s ∈ someL, ∀ c ∈ s.1.take 1, farC c = true) :
    RunD K now pst a dx pl (t_law_stands K P w) [some (.rf a), some (.ro ((pst ++ [now]).map shD)), some (.ro (someL.map shD)), none, none, none, none, none, none, none, none] (.rt (.im (.bool true))) := by
  have hlast : L2.atI ((pst ++ [now]).map shD) (-1) = some (shD now) := by rw [List.map_append]; exact at_last _ _
  have far : ∀ c ∈ spotsL someL, farC c = true := fun c m => by
    rcases List.mem_cons.1 m with e | m
    · rw [e]; decide +kernel
    · obtain ⟨s, hs1, hs2⟩ := List.mem_flatMap.1 m
      exact hf s hs1 c hs2
  refine rd_seq (ρ1 := rhoS K a now pst someL none none none none none) (rd_asg2 (i := 3) (j := 4) (d1 := csD now.1) (d2 := .bool now.2) (es_op (z := .im (shD now)) (es_var (x := .ro ((pst ++ [now]).map shD)) rfl rfl) (es_un es_int s_neg) (s_ixL rfl hlast))) ?_
  refine rd_ifDNo (edt_to ?_ (edt_or (edt_test (ed_ne (ed_shape (i := 0) rfl) (es_op (z := .im (shD now)) (es_var (x := .ro ((pst ++ [now]).map shD)) rfl rfl) (es_un es_int s_neg) (s_ixL rfl hlast)) (shD_shaped _) (shD_shaped _))) fun _ => edt_test (ed_ne (ed_say (i := 0) (r := .bare "deeds") (ans := numT pst.length) rfl (say_txt (row_bare "deeds") es_str) (by show ("deeds" : Str) ∈ BAREL; decide) hp (.deeds (by omega)))
    (es_cb (ea_cons (es_op (es_cb (ea_cons (es_var (x := .ro ((pst ++ [now]).map shD)) rfl rfl) ea_nil) (c_lenL rfl)) es_int s_sub) ea_nil) (c_str (small_log (by rw [List.length_map, List.length_append, List.length_cons, List.length_nil]; omega)))) (str_shaped (num_ok _)) (str_shaped (num_ok _))))) ?_
  · rw [shD_eqv, decide_eq_true (rfl : now = now)]
    refine no_ne _ ?_
    rw [List.length_map, List.length_append, List.length_cons, List.length_nil, show ((pst.length + (0 + 1) : Nat) : Int) - 1 = pst.length by omega]
  refine rd_ifDNo (edt_to ?_ (edt_test (ed_ne (ed_say (i := 0) (r := .bare "count") (ans := anF now (.bare "count")) rfl (say_txt (row_bare "count") es_str) (by show ("count" : Str) ∈ BAREL; decide) hp (.ask (r := .bare "count") rfl hl))
    (es_to (congrArg SV.im if_strD) (es_two (x := .str (numT now.1.length)) (y := .str "endless") (es_to (by rw [List.length_map]) (es_cb (ea_cons (es_cb (ea_cons (es_im (d := csD now.1) rfl) ea_nil) c_lenT) ea_nil) (c_str (small_log (by rw [List.length_map]; omega))))) es_str (es_im rfl))) ?_ ?_))) ?_
  · exact no_ne _ rfl
  · refine str_shaped ?_
    show PyData.strOk (if now.2 = true then "endless" else numT now.1.length) = true
    split
    · decide +kernel
    · exact num_ok _
  · refine str_shaped ?_
    split
    · decide +kernel
    · exact num_ok _
  refine rd_seq (ρ1 := rhoS K a now pst someL (some (.own ((spotsL []).map cD))) none none none none) (rd_asgOwn (i := 5) (ds := [cD (0, 0)]) (es_lst (ds := [cD (0, 0)]) (ea_cons (es_tup (ds := [.int 0, .int 0]) (ea_cons es_int (ea_cons es_int ea_nil))) ea_nil))) ?_
  have ex : ∀ (p : List Shp) (x : Shp), (spotsL p).map cD ++ (x.1.map cD).take 1 = (spotsL (p ++ [x])).map cD := fun p x => by
    unfold spotsL
    rw [List.flatMap_append, List.flatMap_cons, List.flatMap_nil, List.append_nil, List.map_cons, List.map_cons, List.map_append, List.map_take, List.cons_append]
  have one : ∀ (p : List Shp) (x : Shp) (r : List Shp), someL = p ++ x :: r → TurnD K now pst a dx pl (gName 6) (tDrop (tBM K "list" (rExtT K) (tVar 5) (tCons (tSl (rSlA K) (tOp (rIx K) (tVar 6) (tC (.int 0))) tNoPart (tPart (tC (.int 1)))) tNil))) (rhoS K a now pst someL (some (.own ((spotsL p).map cD))) none none none none) (shD x) (.nx (rhoS K a now pst someL (some (.own ((spotsL (p ++ [x])).map cD))) none none none none)) := fun p x r e => by
    refine td_name (rd_fg [6] (rd_extT (i := 5) (ds := (spotsL p).map cD) (es := (x.1.map cD).take 1) rfl (es_cut1 (es_op (z := .im (csD x.1)) (es_im (d := shD x) rfl) es_int (s_ixT (d := csD x.1) rfl))) ?_) ?_)
    · have := spots_len p
      have : p.length ≤ someL.length := by rw [e, List.length_append]; omega
      show ((spotsL p).map cD).length + ((x.1.map cD).take 1).length < 100000
      rw [List.length_map, List.length_take]
      show ((p.flatMap fun s => s.1.take 1).length + 1) + _ < 100000
      omega
    · show rhoS K a now pst someL (some (.own ((spotsL p).map cD ++ (x.1.map cD).take 1))) none none none none = rhoS K a now pst someL (some (.own ((spotsL (p ++ [x])).map cD))) none none none none
      rw [ex p x]
  refine rd_seq (ρ1 := rhoS K a now pst someL (some (.own ((spotsL someL).map cD))) none none none none) (rd_for (i := 2) (enc := shD) (l := someL) (f := fun p => rhoS K a now pst someL (some (.own ((spotsL p).map cD))) none none none none) rfl one) ?_
  refine rd_freeze 5 (ds := (spotsL someL).map cD) rfl ?_
  exact rd_seq (ρ1 := rhoS K a now pst someL (some (.ro ((spotsL someL).map cD))) none none none none) (rd_for (i := 5) (enc := cD) (l := spotsL someL) (f := fun _ => rhoS K a now pst someL (some (.ro ((spotsL someL).map cD))) none none none none) rfl fun p c r e => td_pair (turn_stands someL _ c hl hp (far c (by rw [e]; exact List.mem_append_right _ List.mem_cons_self)))) (rd_ret es_bl)
end

def offD (a pl : Addr) (H : Hp) : Hp := fun b => if b = a ∨ b = pl then none else H b
theorem offD_gr {a pl : Addr} {H : Hp} : Gr (offD a pl H) H := fun b o e => by
  unfold offD at e
  split at e
  · cases e
  · exact e
theorem offD_same {a pl : Addr} {H H' : Hp} (g : Gr (offD a pl H) H') : SameD a pl H H' := fun b o e n m => g b o (by unfold offD; rw [if_neg (not_or.mpr ⟨n, m⟩)]; exact e)
/-- what the law's own list tells -/
def LAt (H : Hp) (l : Addr) (ss : List Shp) : Prop := ∃ vs, H l = some (.lst vs) ∧ Ims H vs (ss.map shD)
def spSt (K : PySem.W.Frag) : Sp := fun vs H Q _ => ∃ (a dx pl l m : Addr) (now : Shp) (pst someL : List Shp), vs = [.ref a, .ref l, .ref m] ∧ Dk K now pst a dx pl H ∧ l ≠ pl ∧ m ≠ pl ∧ LAt H l (pst ++ [now]) ∧ LAt H m someL ∧ now.1.length < 100000 ∧ pst.length < 1000 ∧ someL.length ≤ 10 ∧ (∀ s ∈ someL, ∀ c ∈ s.1.take 1, farC c = true) ∧
  ∀ H', SameD a pl H H' → Dk K now pst a dx pl H' → Q (.bl true) H'

theorem len_law_stands : ∀ vs H Q E, spSt K vs H Q E → vs.length = 3 := by
  rintro vs H Q E ⟨_, _, _, _, _, _, _, _, rfl, _⟩
  rfl
theorem run_law_stands (vs : List V) (H : Hp) (Q : VK) (E : XK) (h : spSt K vs H Q E) : t_law_stands K P w { nx := fun _ H' => Q .non H', rt := Q } (L2.start ["desk", "past", "some", "cells", "rest", "spots", "shape", "row", "column", "there", "said"] vs) H := by
  obtain ⟨a, dx, pl, l, m, now, pst, someL, rfl, dk, nl, nm, ⟨us, el, il⟩, ⟨ws, em, im⟩, h1, h2, h3, h4, q⟩ := h
  have S0 := start_St (H := H) (N := ["desk", "past", "some", "cells", "rest", "spots", "shape", "row", "column", "there", "said"]) (vs := [.ref a, .ref l, .ref m]) (xs := [.rf a, .ro ((pst ++ [now]).map shD), .ro (someL.map shD)]) (.cons rfl (.cons ⟨l, us, rfl, el, il⟩ (.cons ⟨m, ws, rfl, em, im⟩ .nil))) (by show 3 ≤ 11; decide)
  refine run_stands P w someL h1 h2 h3 h4 (offD a pl H) _ H _ ⟨S0.back offD_gr, dk, by unfold offD; exact if_pos (.inl rfl), by unfold offD; exact if_pos (.inr rfl), fun i x v e lx hv => ?_, fun i x e => ?_⟩ fun v H' g dk' r => ?_
  · have e2 : i < 11 := by
      have := (List.getElem?_eq_some_iff.mp e).1
      exact this
    rcases i with _ | _ | _ | i
    · cases e; cases lx
    · cases hv
      exact fun z => nl (V.ref.inj z)
    · cases hv
      exact fun z => nm (V.ref.inj z)
    · have e3 : ([.rf a, .ro ((pst ++ [now]).map shD), .ro (someL.map shD)].map some ++ List.replicate (11 - 3) (none : Option SV))[i + 3]? = some none := by
        rw [List.getElem?_append_right (by show 3 ≤ i + 3; omega)]
        rw [List.getElem?_replicate]
        exact if_pos (by show i + 3 - 3 < 8; omega)
      rw [show (i + 1 + 1 + 1 = i + 3) from rfl] at e
      rw [show ([SV.rf a, .ro ((pst ++ [now]).map shD), .ro (someL.map shD)].map some ++ List.replicate (11 - 3) (none : Option SV))[i + 3]? = some (some x) from e] at e3
      cases e3
  · have e2 : i < 11 := (List.getElem?_eq_some_iff.mp e).1
    rcases i with _ | _ | _ | i
    · cases e; rfl
    · cases e; rfl
    · cases e; rfl
    · have e3 : ([.rf a, .ro ((pst ++ [now]).map shD), .ro (someL.map shD)].map some ++ List.replicate (11 - 3) (none : Option SV))[i + 3]? = some none := by
        rw [List.getElem?_append_right (by show 3 ≤ i + 3; omega)]
        rw [List.getElem?_replicate]
        exact if_pos (by show i + 3 - 3 < 8; omega)
      rw [show ([SV.rf a, .ro ((pst ++ [now]).map shD), .ro (someL.map shD)].map some ++ List.replicate (11 - 3) (none : Option SV))[i + 3]? = some (some x) from e] at e3
      cases e3
  · cases Im.bl_v r
    exact q H' (offD_same g) dk'
theorem O_law_stands (T : Tx K mg) : Ok P w K mg base CX0 20 d_law_stands ["desk", "past", "some"] (spSt K) := by
  obtain ⟨fd, F⟩ := T.fn 88 d_law_stands rfl
  exact ok_v (t := t_law_stands K P w) F sc_law_stands (fun _ _ _ _ _ _ us hl => match us, hl with | [_, _, _], _ => rfl) len_law_stands (fun cdv A outer s H E hr => pss_cons (ps_asg (pe_ix ix_seq (pv 1) (pe_un un_neg (pe_int)) (fun _ _ => rfl)) (pg_tup rfl (pgs_cons (pg_name (i := 3) sc_law_stands.nd rfl (by first | exact Or.inl rfl | exact Or.inr rfl)) (pgs_cons (pg_name (i := 4) sc_law_stands.nd rfl (by first | exact Or.inl rfl | exact Or.inr rfl)) (pgs_nil))))) (pss_cons (ps_if (PW.pt (pw_or (pt_cmpR (op_neD hr.units) (pe_methO0 (d := d_Desk_shape) (pv 0) (T.cls 113 (x := "Desk") rfl) (T.meth 175 (x := "Desk") (m := "shape") rfl) (O_Desk_shape T) (hr.mono (by first | decide | omega))) (pe_ix ix_seq (pv 1) (pe_un un_neg (pe_int)) (fun _ _ => rfl)) (nomark _)) (pw_or1 (pt_cmpR (op_neD hr.units) (pe_methO (d := d_Desk_say) (pv 0) (T.cls 113 (x := "Desk") rfl) (T.meth 177 (x := "Desk") (m := "say") rfl) (O_Desk_say T) (hr.mono (by first | decide | omega)) (pa_cons (pe_str) (pa_nil))) (pe_callTy r_str rfl (T.free 74 rfl) boot_str (pa_cons (pe_op op_sub (pe_callB r_len rfl (T.free 63 rfl) boot_len (pa_cons (pv 1) (pa_nil))) (pe_int)) (pa_nil))) (nomark _))))) (pss_one (ps_ret (pe_bl))) (pss_nil)) (pss_cons (ps_if (pt_cmpR (op_neD hr.units) (pe_methO (d := d_Desk_say) (pv 0) (T.cls 113 (x := "Desk") rfl) (T.meth 177 (x := "Desk") (m := "say") rfl) (O_Desk_say T) (hr.mono (by first | decide | omega)) (pa_cons (pe_str) (pa_nil))) (pe_ix ix_seq (pe_lst (pa_cons (pe_callTy r_str rfl (T.free 74 rfl) boot_str (pa_cons (pe_callB r_len rfl (T.free 63 rfl) boot_len (pa_cons (pv 3) (pa_nil))) (pa_nil))) (pa_cons (pe_str) (pa_nil)))) (pe_callTy r_int rfl (T.free 75 rfl) boot_int (pa_cons (pv 4) (pa_nil))) (fun _ _ => rfl)) (nomark _)) (pss_one (ps_ret (pe_bl))) (pss_nil)) (pss_cons (ps_set (i := 5) sc_law_stands.nd rfl (by first | exact Or.inl rfl | exact Or.inr rfl) (pe_lst (pa_cons (pe_tup (pa_cons (pe_int) (pa_cons (pe_int) (pa_nil)))) (pa_nil)))) (pss_cons (ps_for PassesOwn.never rfl (pi_list (pv 2)) (pg_name (i := 6) sc_law_stands.nd rfl (by first | exact Or.inl rfl | exact Or.inr rfl)) (pss_one (ps_expr (pe_bm PySem.F.plainAttrs_list PySem.F.slot_list_extend PySem.F.type_list_extend mt_extT (pv 5) (pa_cons (pe_slice sl_tupA (pe_ix ix_seq (pv 6) (pe_int) (fun _ _ => rfl)) (po_none) (po_some (pe_int))) (pa_nil)))))) (pss_cons (ps_for PassesOwn.never rfl (pi_list (pv 5)) (pg_tup rfl (pgs_cons (pg_name (i := 7) sc_law_stands.nd rfl (by first | exact Or.inl rfl | exact Or.inr rfl)) (pgs_cons (pg_name (i := 8) sc_law_stands.nd rfl (by first | exact Or.inl rfl | exact Or.inr rfl)) (pgs_nil)))) (pss_cons (ps_set (i := 9) sc_law_stands.nd rfl (by first | exact Or.inl rfl | exact Or.inr rfl) (pe_cmpR (op_neD hr.units) (pe_cmpR (o_in (units65 hr)) (pe_tup (pa_cons (pv 7) (pa_cons (pv 8) (pa_nil)))) (pv 3) rfl) (pv 4) (nomark _))) (pss_cons (ps_set (i := 10) sc_law_stands.nd rfl (by first | exact Or.inl rfl | exact Or.inr rfl) (pe_op o_add (pe_op o_add (pe_callTy r_str rfl (T.free 74 rfl) boot_str (pa_cons (pv 7) (pa_nil))) (pe_str)) (pe_callTy r_str rfl (T.free 74 rfl) boot_str (pa_cons (pv 8) (pa_nil))))) (pss_cons (ps_if (pt_cmpR (op_neD hr.units) (pe_methO (d := d_Desk_say) (pv 0) (T.cls 113 (x := "Desk") rfl) (T.meth 177 (x := "Desk") (m := "say") rfl) (O_Desk_say T) (hr.mono (by first | decide | omega)) (pa_cons (pe_op o_add (pe_str) (pv 10)) (pa_nil))) (pe_ix ix_seq (pe_lst (pa_cons (pe_str) (pa_cons (pe_str) (pa_nil)))) (pe_callTy r_int rfl (T.free 75 rfl) boot_int (pa_cons (pv 9) (pa_nil))) (fun _ _ => rfl)) (nomark _)) (pss_one (ps_ret (pe_bl))) (pss_nil)) (pss_cons (ps_if (pt_cmpR (op_neD hr.units) (pe_methO (d := d_Desk_say) (pv 0) (T.cls 113 (x := "Desk") rfl) (T.meth 177 (x := "Desk") (m := "say") rfl) (O_Desk_say T) (hr.mono (by first | decide | omega)) (pa_cons (pe_op o_add (pe_op o_add (pe_str) (pv 10)) (pe_str)) (pa_nil))) (pe_ix ix_seq (pe_str) (pe_callTy r_int rfl (T.free 75 rfl) boot_int (pa_cons (pv 9) (pa_nil))) (fun _ _ => rfl)) (nomark _)) (pss_one (ps_ret (pe_bl))) (pss_nil)) (pss_one (ps_if (pt_cmpR (op_neD hr.units) (pe_methO (d := d_Desk_say) (pv 0) (T.cls 113 (x := "Desk") rfl) (T.meth 177 (x := "Desk") (m := "say") rfl) (O_Desk_say T) (hr.mono (by first | decide | omega)) (pa_cons (pe_op o_add (pe_op o_add (pe_str) (pv 10)) (pe_str)) (pa_nil))) (pe_ix ix_seq (pe_lst (pa_cons (pe_str) (pa_cons (pe_str) (pa_nil)))) (pe_callTy r_int rfl (T.free 75 rfl) boot_int (pa_cons (pv 9) (pa_nil))) (fun _ _ => rfl)) (nomark _)) (pss_one (ps_ret (pe_bl))) (pss_nil)))))))) (pss_one (ps_ret (pe_bl))))))))) run_law_stands
end K91
/-! ==== K34 -/
set_option maxRecDepth 100000
set_option maxHeartbeats 4000000
namespace K91
open PySem PySem.Spec PyProof.Rows L2 SG DL
variable {P : Program} {w : World} {K : PySem.W.Frag} {mg : Str → Option Value} {base : Heap}
/-- all but the desk and the law's own list is as before -/
def SameL (a pl l : Addr) (H H' : Hp) : Prop := ∀ b o, H b = some o → b ≠ a → b ≠ pl → b ≠ l → H' b = some o
open Classical in
noncomputable def off3 (a pl l : Addr) (H : Hp) : Hp := fun b => if b = a ∨ b = pl ∨ b = l then none else H b
theorem off3_gr {a pl l : Addr} {H : Hp} : Gr (off3 a pl l H) H := fun b o e => by
  unfold off3 at e
  split at e
  · cases e
  · exact e
theorem off3_same {a pl l : Addr} {H H' : Hp} (g : Gr (off3 a pl l H) H') : SameL a pl l H H' := fun b o e n m k => g b o (by unfold off3; rw [if_neg (fun z => z.elim n fun z => z.elim m k)]; exact e)
theorem off3_a {a pl l : Addr} {H : Hp} : off3 a pl l H a = none := by unfold off3; exact if_pos (.inl rfl)
theorem off3_p {a pl l : Addr} {H : Hp} : off3 a pl l H pl = none := by unfold off3; exact if_pos (.inr (.inl rfl))
theorem off3_l {a pl l : Addr} {H : Hp} : off3 a pl l H l = none := by unfold off3; exact if_pos (.inr (.inr rfl))
/-- the shapes of a desk, as the law's are -/
def GP (n : Nat) (now : Shp) (pst : List Shp) : Prop := GS n now ∧ ∀ s ∈ pst, GS n s
theorem GP.mono {n m : Nat} {now : Shp} {pst : List Shp} (h : GP n now pst) (q : n ≤ m) : GP m now pst := ⟨h.1.mono q, fun s hs => (h.2 s hs).mono q⟩
theorem GS.far {n : Nat} {s : Shp} (h : GS n s) (q : n ≤ 1000000000000) : ∀ c ∈ s.1.take 1, farC c = true := fun c hc => far_of (h.bd c (List.mem_of_mem_take hc)) q
theorem Dk.ne {K : PySem.W.Frag} {now : Shp} {pst : List Shp} {a dx pl l : Addr} {H : Hp} {ss : List Shp} (dk : Dk K now pst a dx pl H) (h : LAt H l ss) : a ≠ l := fun z => by
  obtain ⟨nv, hA, _⟩ := dk.ins
  obtain ⟨vs, e, _⟩ := h
  rw [z, e] at hA
  cases hA
theorem ims_pr {H : Hp} : ∀ {vs : List V} {ds : List PyData}, Ims H vs ds → Paired (SH H H) vs (ds.map .im)
  | _, _, .nil => .nil
  | _, _, .cons a r => .cons a (ims_pr r)
/-- the start of a def with a desk, the law's list and data -/
theorem sd_start {now : Shp} {pst : List Shp} {a dx pl l : Addr} {H : Hp} {N : List Str} {ss : List Shp} {vs : List V} {ds : List PyData} (dk : Dk K now pst a dx pl H) (h : LAt H l ss) (nl : l ≠ pl) (hv : Ims H vs ds) (hl : ds.length + 2 ≤ N.length) :
    SD K now pst a dx pl (off3 a pl l H) (L2.start N (.ref a :: .ref l :: vs)) H ((SV.rf a :: .own (ss.map shD) :: ds.map .im).map some ++ List.replicate (N.length - (ds.length + 2)) none) := by
  obtain ⟨us, el, il⟩ := h
  have S0 := start_St (H := H) (N := N) (vs := .ref a :: .ref l :: vs) (xs := .rf a :: .ro (ss.map shD) :: ds.map .im) (.cons rfl (.cons ⟨l, us, rfl, el, il⟩ (ims_pr hv))) (by rw [List.length_cons, List.length_cons, List.length_map]; exact hl)
  have len2 : (SV.rf a :: .ro (ss.map shD) :: ds.map .im).length = ds.length + 2 := by rw [List.length_cons, List.length_cons, List.length_map]
  rw [len2] at S0
  have at_ : ∀ (i : Nat) (x : SV), ((SV.rf a :: .own (ss.map shD) :: ds.map .im).map some ++ List.replicate (N.length - (ds.length + 2)) none)[i]? = some (some x) → (i = 0 ∧ x = .rf a) ∨ (i = 1 ∧ x = .own (ss.map shD)) ∨ (2 ≤ i ∧ (∃ d, x = .im d) ∧ ((SV.rf a :: .ro (ss.map shD) :: ds.map .im).map some ++ List.replicate (N.length - (ds.length + 2)) none)[i]? = some (some x)) := fun i x e => by
    rcases i with _ | _ | i
    · cases e; exact .inl ⟨rfl, rfl⟩
    · cases e; exact .inr (.inl ⟨rfl, rfl⟩)
    · refine .inr (.inr ⟨by omega, ?_, e⟩)
      have e : ((ds.map SV.im).map some ++ List.replicate (N.length - (ds.length + 2)) (none : Option SV))[i]? = some (some x) := e
      rw [List.getElem?_append] at e
      split at e
      · rw [List.map_map, List.getElem?_map] at e
        obtain ⟨d, _, e2⟩ := Option.map_eq_some_iff.mp e
        cases e2
        exact ⟨d, rfl⟩
      · rw [List.getElem?_replicate] at e
        split at e <;> cases e
  have g := off3_gr (a := a) (pl := pl) (l := l) (H := H)
  have S1 := S0.back g
  have st1 : (L2.start N (.ref a :: .ref l :: vs))[1]? = some (some (.ref l)) := by
    obtain ⟨v, h1, b, _, h2, _⟩ := S0.at_ 1 (.ro (ss.map shD)) rfl
    obtain ⟨v2, h3, h4⟩ := S0.at_ 1 (.ro (ss.map shD)) rfl
    cases N with
    | nil => exact absurd hl (by show ¬ (_ ≤ 0); omega)
    | cons n1 N =>
      cases N with
      | nil => exact absurd hl (by show ¬ (_ ≤ 1); omega)
      | cons n2 N => rfl
  refine ⟨⟨g, ?_, fun i x e => ?_, fun i j x y v n ex mx ey ly hv => ?_⟩, dk, off3_a, off3_p, fun i x v e lx hv => ?_, fun i x e => ?_⟩
  · have := S0.len
    rw [this]
    simp
  · rcases at_ i x e with ⟨rfl, rfl⟩ | ⟨rfl, rfl⟩ | ⟨_, _, e2⟩
    · exact S1.at_ 0 (.rf a) rfl
    · exact ⟨_, st1, l, us, rfl, off3_l, el, il⟩
    · exact S1.at_ i x e2
  · rcases at_ i x ex with ⟨rfl, rfl⟩ | ⟨rfl, rfl⟩ | ⟨_, ⟨d, rfl⟩, _⟩
    · cases mx
    · rcases at_ j y ey with ⟨rfl, rfl⟩ | ⟨rfl, rfl⟩ | ⟨_, ⟨d, rfl⟩, _⟩
      · cases ly
      · exact absurd rfl n
      · cases ly
    · cases mx
  · rcases at_ i x e with ⟨rfl, rfl⟩ | ⟨rfl, rfl⟩ | ⟨_, ⟨d, rfl⟩, _⟩
    · cases lx
    · rw [st1] at hv
      cases hv
      exact fun z => nl (V.ref.inj z)
    · cases lx
  · rcases at_ i x e with ⟨rfl, rfl⟩ | ⟨rfl, rfl⟩ | ⟨_, ⟨d, rfl⟩, _⟩ <;> rfl
/-- behind the last asking -/
theorem stands_end {now : Shp} {pst : List Shp} {a dx pl l : Addr} {B σ H} {ρ : Rho} {Q : VK} {n : Nat} {ta : TE} {someL : List Shp} (S : SD K now pst a dx pl B σ H ρ) (h0 : ρ[0]? = some (some (.rf a))) (h1 : ρ[1]? = some (some (.own ((pst ++ [now]).map shD)))) (hv : σ[1]? = some (some (.ref l)))
    (ht : EvS ta ρ (.own (someL.map shD))) (gp : GP n now pst) (hn : n ≤ 1000000000000) (hp : pst.length < 1000) (h3 : someL.length ≤ 10) (h4 : ∀ s ∈ someL, GS n s)
    (q : ∀ H', Gr B H' → Dk K now pst a dx pl H' → LAt H' l (pst ++ [now]) → Q (.bl true) H') : tCall (spSt K) [] E0 (tCons (tVar 0) (tCons (tVar 1) (tCons ta tNil))) σ H Q := by
  obtain ⟨v0, e0, r0⟩ := S.st.at_ 0 _ h0
  cases r0
  obtain ⟨v1, e1, l', vs, rfl, nb, el, il⟩ := S.st.at_ 1 _ h1
  rw [hv] at e1
  cases e1
  refine ⟨_, e0, _, hv, ht B σ H _ S.st fun v H1 g r => ?_⟩
  obtain ⟨m, ws, rfl, nm, em, im⟩ := r
  have S1 := S.grow g
  obtain ⟨us, hP, _⟩ := S.dk.lst
  have mp : m ≠ pl := fun z => by rw [z, hP] at nm; cases nm
  have lp : l ≠ pl := fun z => S.sep 1 _ _ h1 rfl hv (by rw [z])
  have la : LAt H1 l (pst ++ [now]) := ⟨vs, g _ _ el, il.kp g.kp⟩
  show spSt K ([.ref a, .ref l, .ref m] ++ []) H1 Q E0
  rw [List.append_nil]
  refine ⟨a, dx, pl, l, m, now, pst, someL, rfl, S1.dk, lp, mp, la, ⟨ws, em, im⟩, by have := gp.1.le; omega, hp, h3, fun s hs => (h4 s hs).far hn, fun H' sm dk' => ?_⟩
  have S2 := S1.say sm dk'
  obtain ⟨v2, e2, l2, vs2, rfl, nb2, el2, il2⟩ := S2.st.at_ 1 _ h1
  rw [hv] at e2
  cases e2
  exact q H' S2.st.gr dk' ⟨vs2, el2, il2⟩
def spGo (K : PySem.W.Frag) : Sp := fun vs H Q _ => ∃ (a dx pl l : Addr) (dv : V) (now : Shp) (pst : List Shp) (d : Deed) (n : Nat), vs = [.ref a, .ref l, dv] ∧ Dk K now pst a dx pl H ∧ LAt H l (pst ++ [now]) ∧ l ≠ pl ∧ Im H dv (deedD d) ∧ goodD d ∧ GP n now pst ∧ n + 1000000000 ≤ 1000000000000 ∧ pst.length < 900 ∧
  ∀ H' now' pst', SameL a pl l H H' → Dk K now' pst' a dx pl H' → LAt H' l (pst' ++ [now']) → GP (n + 1000000000) now' pst' → pst'.length ≤ pst.length + 1 → Q (.bl true) H'
/-! ### rows of deeds -/
theorem said_row (d : Deed) : rowT (rowD d) = saidF d := by
  cases d with
  | put c => rfl
  | take c => rfl
  | move c => rfl
  | out => exact row_bare "out"
  | turn t =>
    show Txt.join " " ["turn", numT t] = "turn " ++ numT t
    rw [join2]
    rw [show (("turn" : Str) ++ " ") = "turn " by decide +kernel]
  | plan t => rfl
/-! ### _law_gone_on -/
theorem sc_law_gone_on : FnScope ["desk", "past", "deed", "due"] ["desk", "past", "deed"] (defScope s_law_gone_on) := ⟨rfl, rfl, rfl, by decide +kernel, rfl, by decide +kernel, by decide +kernel⟩
def t_law_gone_on (K : PySem.W.Frag) (P : Program) (w : World) : TS := tSeq (tAsg (tCall (spD R_law_due) [] E0 (tCons (tOp (rIx K) (tVar 1) (tUn (rU fun i => .int (-i)) (tC (.int 1)))) (tCons (tVar 2) (tNil)))) (gName 3)) (tSeq (tIfS (tTest (tOp (rI0 fun i j => .bl (decide (i < j))) (tCB (xLen K) (tCons (tOp (rIx K) (tVar 3) (tC (.int 0))) (tNil))) (tC (.int 31)))) (tSeq (tIfS (tTest (tOp (rNeD K) (tMeth (He.ga K "Desk") "say" (spSay K) [] E0 (tVar 0) (tCons (tCall (spD R_law_said) [] E0 (tCons (tVar 2) (tNil))) (tNil))) (tC (.str "ok")))) (tRet (tC (.bl false))) (tNext)) (tDrop (tBM K "list" (rAppend) (tVar 1) (tCons (tVar 3) (tNil))))) (tNext)) (tRet (tCall (spSt K) [] E0 (tCons (tVar 0) (tCons (tVar 1) (tCons (tSl (rSlL K) (tVar 1) (tPart (tUn (rU fun i => .int (-i)) (tC (.int 2)))) (tNoPart)) (tNil)))))))
theorem len_law_gone_on : ∀ vs H Q E, spGo K vs H Q E → vs.length = 3 := by
  rintro vs H Q E ⟨_, _, _, _, _, _, _, _, _, rfl, _⟩
  rfl
theorem drop_two (pst : List Shp) (now : Shp) : ∃ r : List Shp, ((pst ++ [now]).map shD).drop (((pst ++ [now]).map shD).length - 2) = r.map shD ∧ r.length ≤ 10 ∧ ∀ s ∈ r, s ∈ pst ∨ s = now := by
  refine ⟨(pst ++ [now]).drop (((pst ++ [now]).map shD).length - 2), List.map_drop.symm, ?_, fun s hs => ?_⟩
  · rw [List.length_drop, List.length_map]
    omega
  · rcases List.mem_append.1 (List.mem_of_mem_drop hs) with h | h
    · exact .inl h
    · exact .inr (List.mem_singleton.1 h)
theorem run_law_gone_on (vs : List V) (H : Hp) (Q : VK) (E : XK) (h : spGo K vs H Q E) : t_law_gone_on K P w { nx := fun _ H' => Q .non H', rt := Q } (L2.start ["desk", "past", "deed", "due"] vs) H := by
  obtain ⟨a, dx, pl, l, dv, now, pst, d, n, rfl, dk, la, nl, idv, gd, gp, hn, hp, q⟩ := h
  have S0 := sd_start (N := ["desk", "past", "deed", "due"]) dk la nl (.cons idv .nil) (by show 3 ≤ 4; decide)
  have hlast : ∀ (pst : List Shp) (now : Shp), L2.atI ((pst ++ [now]).map shD) (-1) = some (shD now) := fun pst now => by rw [List.map_append]; exact at_last _ _
  have fin : ∀ (now' : Shp) (pst' : List Shp) (σ' : L2.St) (H' : Hp) (x3 : Option SV), SD K now' pst' a dx pl (off3 a pl l H) σ' H' [some (.rf a), some (.own ((pst' ++ [now']).map shD)), some (.im (deedD d)), x3] → σ'[1]? = some (some (.ref l)) → GP (n + 1000000000) now' pst' → pst'.length ≤ pst.length + 1 →
      (tRet (tCall (spSt K) [] E0 (tCons (tVar 0) (tCons (tVar 1) (tCons (tSl (rSlL K) (tVar 1) (tPart (tUn (rU fun i => .int (-i)) (tC (.int 2)))) (tNoPart)) (tNil)))))) { nx := fun _ H' => Q .non H', rt := Q } σ' H' := fun now' pst' σ' H' x3 S hv gp' hp' => by
    obtain ⟨r, er, lr, mr⟩ := drop_two pst' now'
    refine stands_end (someL := r) S rfl rfl hv (es_to (by rw [er]) (es_tail (k := 2) (es_var (x := .own ((pst' ++ [now']).map shD)) rfl rfl) rfl (es_un (z := .im (.int (-((2 : Nat) : Int)))) (es_int (n := 2)) s_neg) (by decide))) gp' hn (by omega) lr (fun s hs => (mr s hs).elim (gp'.2 s) fun z => z ▸ gp'.1) fun H2 g2 dk2 la2 => ?_
    exact q H2 now' pst' (off3_same g2) dk2 la2 gp' hp'
  have v1 : (L2.start ["desk", "past", "deed", "due"] [.ref a, .ref l, dv])[1]? = some (some (.ref l)) := rfl
  refine (es_call (z := .im (shD (dueF now d))) (ea_cons (es_op (z := .im (shD now)) (es_var (x := .own ((pst ++ [now]).map shD)) rfl rfl) (es_un es_int s_neg) (s_ixL rfl (hlast pst now))) (ea_cons (es_im (d := deedD d) rfl) ea_nil)) ⟨now, d, rfl, by have := gp.1.le; omega, rising_nodup gp.1.ri, due_ok gp.1 gd, rfl⟩) _ _ H _ S0.st fun v3 H1 g1 r3 => ?_
  have S1 : SD K now pst a dx pl (off3 a pl l H) _ H1 [some (.rf a), some (.own ((pst ++ [now]).map shD)), some (.im (deedD d)), some (.im (shD (dueF now d)))] := (S0.grow g1).setIm 3 r3
  by_cases c : (dueF now d).1.length < 31
  · have gs := due_GS gp.1 gd c
    refine (et_test (b := true) (es_to (congrArg (fun b => SV.im (.bool b)) (decide_eq_true ?_)) (es_op (es_cb (ea_cons (es_op (z := .im (csD (dueF now d).1)) (es_im (d := shD (dueF now d)) rfl) es_int (s_ixT (d := csD (dueF now d).1) rfl)) ea_nil) c_lenT) es_int s_lt))) _ _ H1 _ S1.st fun H2 g2 => iteT ?_
    · rw [List.length_map]; omega
    have S2 := S1.grow g2
    refine sd_say (i := 0) (r := rowD d) (ans := "ok") (now' := chF now (rowD d)) (past' := pst ++ [now]) S2 rfl (say_txt (said_row d) (es_call (z := .im (.str (saidF d))) (ea_cons (es_im (d := deedD d) rfl) ea_nil) ⟨d, rfl, small_of gd, rfl⟩)) (row_of gd) (by omega) (.deed (n := 2) (ch_ok gp.1 gd) (Nat.le_refl 2) (by have := gp.1.le; omega) (by rw [ch_due gp.1]; omega) (by rw [ch_due gp.1]; exact all_far (due_B gp.1 gd) hn) (by omega)) fun H3 S3 => ?_
    refine ⟨.str "ok", .str "ok", .str _, .str _, str_shaped (by decide +kernel), str_shaped (by decide +kernel), false, congrArg V.bl (no_ne "ok" rfl), iteF ?_⟩
    rw [ch_due gp.1] at S3
    refine sd_append (i := 1) (d := shD (dueF now d)) S3 rfl (es_im rfl) (by rw [List.length_map, List.length_append, List.length_cons, List.length_nil]; omega) fun H4 S4 => ?_
    have e4 : (pst ++ [now]).map shD ++ [shD (dueF now d)] = ((pst ++ [now]) ++ [dueF now d]).map shD := by rw [List.map_append (l₁ := pst ++ [now]), List.map_cons, List.map_nil]
    refine fin (dueF now d) (pst ++ [now]) _ H4 (some (.im (shD (dueF now d)))) (by rw [← e4]; exact S4) rfl ⟨gs, fun s hs => ?_⟩ (by rw [List.length_append, List.length_cons, List.length_nil]; omega)
    rcases List.mem_append.1 hs with hs | hs
    · exact (gp.2 s hs).mono (by omega)
    · exact (List.mem_singleton.1 hs) ▸ gp.1.mono (by omega)
  · refine (et_test (b := false) (es_to (congrArg (fun b => SV.im (.bool b)) (decide_eq_false ?_)) (es_op (es_cb (ea_cons (es_op (z := .im (csD (dueF now d).1)) (es_im (d := shD (dueF now d)) rfl) es_int (s_ixT (d := csD (dueF now d).1) rfl)) ea_nil) c_lenT) es_int s_lt))) _ _ H1 _ S1.st fun H2 g2 => iteF ?_
    · rw [List.length_map]; omega
    exact fin now pst _ H2 _ (S1.grow g2) rfl (gp.mono (by omega)) (by omega)
theorem O_law_gone_on (T : Tx K mg) : Ok P w K mg base CX0 24 d_law_gone_on ["desk", "past", "deed"] (spGo K) := by
  obtain ⟨fd, F⟩ := T.fn 87 d_law_gone_on rfl
  exact ok_v (t := t_law_gone_on K P w) F sc_law_gone_on (fun _ _ _ _ _ _ us hl => match us, hl with | [_, _, _], _ => rfl) len_law_gone_on (fun cdv A outer s H E hr => pss_cons (ps_set (i := 3) sc_law_gone_on.nd rfl (by first | exact Or.inl rfl | exact Or.inr rfl) (pe_own (O_law_due T) (hr.mono (by first | decide | omega)) rfl (T.glo 57 rfl) pass0 (pa_cons (pe_ix ix_seq (pv 1) (pe_un un_neg (pe_int)) (fun _ _ => rfl)) (pa_cons (pv 2) (pa_nil))))) (pss_cons (ps_if (pt_cmpR op_lt (pe_callB r_len rfl (T.free 63 rfl) boot_len (pa_cons (pe_ix ix_seq (pv 3) (pe_int) (fun _ _ => rfl)) (pa_nil))) (pe_int) (nomark _)) (pss_cons (ps_if (pt_cmpR (op_neD hr.units) (pe_methO (d := d_Desk_say) (pv 0) (T.cls 113 (x := "Desk") rfl) (T.meth 177 (x := "Desk") (m := "say") rfl) (O_Desk_say T) (hr.mono (by first | decide | omega)) (pa_cons (pe_own (O_law_said T) (hr.mono (by first | decide | omega)) rfl (T.glo 56 rfl) pass0 (pa_cons (pv 2) (pa_nil))) (pa_nil))) (pe_str) (nomark _)) (pss_one (ps_ret (pe_bl))) (pss_nil)) (pss_one (ps_expr (pe_bm PySem.F.plainAttrs_list PySem.F.slot_list_append PySem.F.type_list_append mt_append (pv 1) (pa_cons (pv 3) (pa_nil)))))) (pss_nil)) (pss_one (ps_ret (pe_own (O_law_stands T) (hr.mono (by first | decide | omega)) rfl (T.glo 60 rfl) pass0 (pa_cons (pv 0) (pa_cons (pv 1) (pa_cons (pe_slice sl_list (pv 1) (po_some (pe_un un_neg (pe_int))) (po_none)) (pa_nil))))))))) run_law_gone_on
end K91
/-! ==== K35 -/
set_option maxRecDepth 100000
set_option maxHeartbeats 4000000
namespace K91
open PySem PySem.Spec PyProof.Rows L2 SG DL
variable {P : Program} {w : World} {K : PySem.W.Frag} {mg : Str → Option Value} {base : Heap}
def spBk (K : PySem.W.Frag) : Sp := fun vs H Q _ => ∃ (a dx pl l : Addr) (now : Shp) (pst : List Shp) (n : Nat), vs = [.ref a, .ref l] ∧ Dk K now pst a dx pl H ∧ LAt H l (pst ++ [now]) ∧ l ≠ pl ∧ GP n now pst ∧ n ≤ 1000000000000 ∧ pst.length < 1000 ∧
  ∀ H' now' pst', SameL a pl l H H' → Dk K now' pst' a dx pl H' → LAt H' l (pst' ++ [now']) → ((pst = [] ∧ now' = now ∧ pst' = []) ∨ pst = pst' ++ [now']) → Q (.bl true) H'
theorem LAt.of {B : Hp} {σ : L2.St} {H : Hp} {ρ : Rho} {i : Nat} {l : Addr} {ss : List Shp} (S : St B σ H ρ) (h : ρ[i]? = some (some (.own (ss.map shD)))) (hv : σ[i]? = some (some (.ref l))) : LAt H l ss := by
  obtain ⟨v, e, l2, vs, rfl, _, el, il⟩ := S.at_ i _ h
  rw [hv] at e
  cases e
  exact ⟨vs, el, il⟩
/-! ### _law_back -/
theorem sc_law_back : FnScope ["desk", "past", "gone"] ["desk", "past"] (defScope s_law_back) := ⟨rfl, rfl, rfl, by decide +kernel, rfl, by decide +kernel, by decide +kernel⟩
def t_law_back (K : PySem.W.Frag) (P : Program) (w : World) : TS := tSeq (tIfS (tTest (tOp (rEqD K) (tCB (xLen K) (tCons (tVar 1) (tNil))) (tC (.int 1)))) (tRet (tAndV (tOp (rEqD K) (tCall (spRf K) [] E0 (tCons (tVar 0) (tCons (tC (.str "back")) (tNil)))) (tC (.str "deed"))) (tOp (rEqD K) (tMeth (He.ga K "Desk") "shape" (spDS K) [] E0 (tVar 0) tNil) (tOp (rIx K) (tVar 1) (tC (.int 0)))))) (tNext)) (tSeq (tAsg (tBM0 K "list" rPop (tVar 1)) (gName 2)) (tRet (tAndV (tOp (rEqD K) (tMeth (He.ga K "Desk") "say" (spSay K) [] E0 (tVar 0) (tCons (tC (.str "back")) (tNil))) (tC (.str "ok"))) (tCall (spSt K) [] E0 (tCons (tVar 0) (tCons (tVar 1) (tCons (tLst (tCons (tVar 2) (tCons (tOp (rIx K) (tVar 1) (tUn (rU fun i => .int (-i)) (tC (.int 1)))) (tNil)))) (tNil))))))))
theorem len_law_back : ∀ vs H Q E, spBk K vs H Q E → vs.length = 2 := by
  rintro vs H Q E ⟨_, _, _, _, _, _, _, rfl, _⟩
  rfl
theorem run_law_back (vs : List V) (H : Hp) (Q : VK) (E : XK) (h : spBk K vs H Q E) : t_law_back K P w { nx := fun _ H' => Q .non H', rt := Q } (L2.start ["desk", "past", "gone"] vs) H := by
  obtain ⟨a, dx, pl, l, now, pst, n, rfl, dk, la, nl, gp, hn, hp, q⟩ := h
  have S0 := sd_start (N := ["desk", "past", "gone"]) dk la nl .nil (by show 2 ≤ 3; decide)
  have test : EvT (tTest (tOp (rEqD K) (tCB (xLen K) (tCons (tVar 1) tNil)) (tC (.int 1)))) [some (.rf a), some (.own ((pst ++ [now]).map shD)), none] (decide (pst = [])) := by
    refine et_test (es_to (congrArg (fun b => SV.im (.bool b)) ?_) (es_op (es_cb (ea_cons (es_var (x := .own ((pst ++ [now]).map shD)) rfl rfl) ea_nil) (c_lenL rfl)) es_int (s_eq rfl rfl (int_shaped _) (int_shaped _))))
    show PyData.eqv (.int _) (.int 1) = _
    rw [int_eqv, List.length_map, List.length_append, List.length_cons, List.length_nil]
    cases pst with
    | nil => rfl
    | cons x r => exact (decide_eq_false (by rw [List.length_cons]; omega)).trans (decide_eq_false (fun z => nomatch z)).symm
  rcases List.eq_nil_or_concat pst with e | ⟨pst', now', e⟩
  · subst e
    refine test _ _ H _ S0.st fun H1 g1 => iteT ?_
    have S1 := S0.grow g1
    have bad := BadRow.back S1.dk
    rw [row_bare] at bad
    refine ⟨_, rfl, "BadDeed", a, dx, pl, now, [], bad, ⟨_, rfl⟩, S1.dk, fun H2 g2 => ?_⟩
    have S2 := S1.grow g2
    rw [show refF "BadDeed" = "deed" by decide +kernel]
    refine ⟨.str "deed", .str "deed", .str _, .str _, str_shaped (by decide +kernel), str_shaped (by decide +kernel), true, congrArg V.bl ((str_eqv _ _).trans (decide_eq_true rfl)), iteT ?_⟩
    refine (ed_shape (i := 0) rfl) _ _ H2 _ S2 fun v H3 S3 iv => (es_op (z := .im (shD now)) (es_var (x := .own (([] ++ [now]).map shD)) rfl rfl) es_int (s_ixL rfl rfl)) _ _ H3 _ S3.st fun u H4 g4 iu => ⟨shD now, shD now, Im.dp (iv.kp g4.kp), Im.dp iu, shD_shaped _, shD_shaped _, ?_⟩
    have S4 := S3.grow g4
    rw [shD_eqv, decide_eq_true (rfl : now = now)]
    exact q H4 now [] (off3_same S4.st.gr) S4.dk (.of (ss := [now]) S4.st (i := 1) rfl rfl) (.inl ⟨rfl, rfl, rfl⟩)
  · rw [List.concat_eq_append] at e
    subst e
    refine test _ _ H _ S0.st fun H1 g1 => ?_
    rw [decide_eq_false (fun z => by have := congrArg List.length z; rw [List.length_append] at this; exact absurd this (by show ¬ (_ + 1 = 0); omega))]
    refine iteF ?_
    have S1 : SD K now (pst' ++ [now']) a dx pl (off3 a pl l H) (L2.start ["desk", "past", "gone"] [.ref a, .ref l]) H1 [some (.rf a), some (.own ((pst' ++ [now']).map shD ++ [shD now])), none] := by
      have e : (pst' ++ [now']).map shD ++ [shD now] = ((pst' ++ [now']) ++ [now]).map shD := by rw [List.map_append (l₁ := pst' ++ [now']), List.map_cons, List.map_nil]
      rw [e]
      exact S0.grow g1
    refine sd_pop (i := 1) (j := 2) S1 rfl fun v2 H2 S2 => ?_
    have S2 : SD K now (pst' ++ [now']) a dx pl (off3 a pl l H) _ H2 [some (.rf a), some (.own ((pst' ++ [now']).map shD)), some (.im (shD now))] := S2
    refine sd_say (i := 0) (r := .bare "back") (ans := "ok") (now' := now') (past' := pst') S2 rfl (say_txt (row_bare "back") es_str) (by show ("back" : Str) ∈ BAREL; decide) (by omega) .back fun H3 S3 => ?_
    refine ⟨.str "ok", .str "ok", .str _, .str _, str_shaped (by decide +kernel), str_shaped (by decide +kernel), true, congrArg V.bl ((str_eqv _ _).trans (decide_eq_true rfl)), iteT ?_⟩
    have hlast : L2.atI ((pst' ++ [now']).map shD) (-1) = some (shD now') := by rw [List.map_append]; exact at_last _ _
    have gn : GS n now' := gp.2 now' (List.mem_append_right _ List.mem_cons_self)
    refine stands_end (n := n) (someL := [now, now']) S3 rfl rfl rfl (es_lst (ds := [shD now, shD now']) (ea_cons (es_im rfl) (ea_cons (es_op (z := .im (shD now')) (es_var (x := .own ((pst' ++ [now']).map shD)) rfl rfl) (es_un es_int s_neg) (s_ixL rfl hlast)) ea_nil))) ⟨gn, fun s hs => gp.2 s (List.mem_append_left _ hs)⟩ hn (by rw [List.length_append] at hp; omega) (by show 2 ≤ 10; decide) (fun s hs => ?_) fun H4 g4 dk4 la4 => ?_
    · rcases List.mem_cons.1 hs with h | hs
      · exact h ▸ gp.1
      · exact (List.mem_singleton.1 hs) ▸ gn
    · exact q H4 now' pst' (off3_same g4) dk4 la4 (.inr rfl)
theorem O_law_back (T : Tx K mg) : Ok P w K mg base CX0 26 d_law_back ["desk", "past"] (spBk K) := by
  obtain ⟨fd, F⟩ := T.fn 89 d_law_back rfl
  exact ok_v (t := t_law_back K P w) F sc_law_back (fun _ _ _ _ _ _ us hl => match us, hl with | [_, _], _ => rfl) len_law_back (fun cdv A outer s H E hr => pss_cons (ps_if (pt_cmpR (op_eqD hr.units) (pe_callB r_len rfl (T.free 63 rfl) boot_len (pa_cons (pv 1) (pa_nil))) (pe_int) (nomark _)) (pss_one (ps_ret (pe_and (pe_cmpR (op_eqD hr.units) (pe_own (O_law_refused T) (hr.mono (by first | decide | omega)) rfl (T.glo 58 rfl) pass0 (pa_cons (pv 0) (pa_cons (pe_str) (pa_nil)))) (pe_str) (nomark _)) (pe_one (pe_cmpR (op_eqD hr.units) (pe_methO0 (d := d_Desk_shape) (pv 0) (T.cls 113 (x := "Desk") rfl) (T.meth 175 (x := "Desk") (m := "shape") rfl) (O_Desk_shape T) (hr.mono (by first | decide | omega))) (pe_ix ix_seq (pv 1) (pe_int) (fun _ _ => rfl)) (nomark _)))))) (pss_nil)) (pss_cons (ps_set (i := 2) sc_law_back.nd rfl (by first | exact Or.inl rfl | exact Or.inr rfl) (pe_bm0 PySem.F.plainAttrs_list PySem.F.slot_list_pop PySem.F.type_list_pop mt_pop (pv 1))) (pss_one (ps_ret (pe_and (pe_cmpR (op_eqD hr.units) (pe_methO (d := d_Desk_say) (pv 0) (T.cls 113 (x := "Desk") rfl) (T.meth 177 (x := "Desk") (m := "say") rfl) (O_Desk_say T) (hr.mono (by first | decide | omega)) (pa_cons (pe_str) (pa_nil))) (pe_str) (nomark _)) (pe_one (pe_own (O_law_stands T) (hr.mono (by first | decide | omega)) rfl (T.glo 60 rfl) pass0 (pa_cons (pv 0) (pa_cons (pv 1) (pa_cons (pe_lst (pa_cons (pv 2) (pa_cons (pe_ix ix_seq (pv 1) (pe_un un_neg (pe_int)) (fun _ _ => rfl)) (pa_nil)))) (pa_nil))))))))))) run_law_back
end K91
/-! ==== K36 -/
set_option maxRecDepth 100000
set_option maxHeartbeats 4000000
namespace K91
open PySem PySem.Spec PyProof.Rows L2 SG DL
variable {P : Program} {w : World} {K : PySem.W.Frag} {mg : Str → Option Value} {base : Heap}
/-! ### two desks -/
theorem SameL.tups {K : PySem.W.Frag} {now : Shp} {pst : List Shp} {a dx pl l : Addr} {H H' : Hp} {ss : List Shp} (dk : Dk K now pst a dx pl H) (la : LAt H l ss) (sm : SameL a pl l H H') : ∀ c us, H c = some (.tup us) → H' c = some (.tup us) := fun c us e => by
  obtain ⟨⟨nv, hA, _⟩, vs, hP, _⟩ := dk
  obtain ⟨ws, el, _⟩ := la
  exact sm c _ e (fun z => by rw [z, hA] at e; cases e) (fun z => by rw [z, hP] at e; cases e) (fun z => by rw [z, el] at e; cases e)
theorem Dk.sl {K : PySem.W.Frag} {now now2 : Shp} {pst pst2 : List Shp} {a dx pl l b dy pm : Addr} {H H' : Hp} {ss : List Shp} (dk : Dk K now pst a dx pl H) (la : LAt H l ss) (sm : SameL a pl l H H') (d2 : Dk K now2 pst2 b dy pm H) (ab : b ≠ a) (pp : pm ≠ pl) (pq : pm ≠ l) : Dk K now2 pst2 b dy pm H' := by
  have tup := sm.tups dk la
  obtain ⟨⟨nv, hA, _⟩, vs, hP, _⟩ := dk
  obtain ⟨ws, el, _⟩ := la
  obtain ⟨⟨nw, hB, iB⟩, us, hM, iM⟩ := d2
  exact ⟨⟨nw, sm b _ hB ab (fun z => by rw [z, hP] at hB; cases hB) (fun z => by rw [z, el] at hB; cases hB), im_sb tup iB⟩, us, sm pm _ hM (fun z => by rw [z, hA] at hM; cases hM) pp pq, ims_sb tup iM⟩
theorem LAt.sl {K : PySem.W.Frag} {now : Shp} {pst : List Shp} {a dx pl l m : Addr} {H H' : Hp} {ss tt : List Shp} (dk : Dk K now pst a dx pl H) (la : LAt H l ss) (sm : SameL a pl l H H') (h : LAt H m tt) (mp : m ≠ pl) (lm : m ≠ l) : LAt H' m tt := by
  have tup := sm.tups dk la
  obtain ⟨⟨nv, hA, _⟩, _⟩ := dk
  obtain ⟨us, em, im⟩ := h
  exact ⟨us, sm m _ em (fun z => by rw [z, hA] at em; cases em) mp lm, ims_sb tup im⟩
theorem LAt.gr {H H' : Hp} {l : Addr} {ss : List Shp} (h : LAt H l ss) (g : Gr H H') : LAt H' l ss := by
  obtain ⟨us, e, i⟩ := h
  exact ⟨us, g _ _ e, i.kp g.kp⟩
/-- the script, which nothing changes -/
def ScrAt (K : PySem.W.Frag) (sl : Addr) (ns : List Int) (H : Hp) : Prop := (∃ o, H sl = some (.frz o (.lst (ns.map V.int)))) ∨ ∀ H', SqL K H' sl (ns.map V.int)
theorem ScrAt.sq {K : PySem.W.Frag} {sl : Addr} {ns : List Int} {H : Hp} (h : ScrAt K sl ns H) : SqL K H sl (ns.map V.int) := h.elim (fun ⟨o, e⟩ => .inl (.inr ⟨o, e⟩)) fun e => e H
theorem ScrAt.gr {K : PySem.W.Frag} {sl : Addr} {ns : List Int} {H H' : Hp} (h : ScrAt K sl ns H) (g : Gr H H') : ScrAt K sl ns H' := h.elim (fun ⟨o, e⟩ => .inl ⟨o, g _ _ e⟩) .inr
theorem scr_of {K : PySem.W.Frag} {sl : Addr} {ns : List Int} {H : Hp} (o : Only H) (h : SqL K H sl (ns.map V.int)) : ScrAt K sl ns H := by
  rcases h with (h | h) | h
  · rcases o sl with z | ⟨u, xs, z⟩ <;> rw [z] at h <;> cases h
  · exact .inl h
  · exact .inr fun _ => .inr h
structure WI (K : PySem.W.Frag) (n : Nat) (sl : Addr) (ns : List Int) (a dx pl l b dy pm m : Addr) (now : Shp) (pst : List Shp) (now2 : Shp) (pst2 : List Shp) (H : Hp) : Prop where
  scr : ScrAt K sl ns H
  d1 : Dk K now pst a dx pl H
  d2 : Dk K now2 pst2 b dy pm H
  l1 : LAt H l (pst ++ [now])
  l2 : LAt H m (pst2 ++ [now2])
  ab : a ≠ b
  pp : pl ≠ pm
  lp : l ≠ pl
  lq : l ≠ pm
  mp : m ≠ pl
  mq : m ≠ pm
  lm : l ≠ m
  g1 : GP n now pst
  g2 : GP n now2 pst2
section
variable {K : PySem.W.Frag} {n : Nat} {sl : Addr} {ns : List Int} {a dx pl l b dy pm m : Addr} {now : Shp} {pst : List Shp} {now2 : Shp} {pst2 : List Shp} {H H' : Hp} {σ : L2.St}
theorem WI.gr (W : WI K n sl ns a dx pl l b dy pm m now pst now2 pst2 H) (g : Gr H H') : WI K n sl ns a dx pl l b dy pm m now pst now2 pst2 H' := ⟨W.scr.gr g, W.d1.gr g, W.d2.gr g, W.l1.gr g, W.l2.gr g, W.ab, W.pp, W.lp, W.lq, W.mp, W.mq, W.lm, W.g1, W.g2⟩
theorem WI.swap (W : WI K n sl ns a dx pl l b dy pm m now pst now2 pst2 H) : WI K n sl ns b dy pm m a dx pl l now2 pst2 now pst H := ⟨W.scr, W.d2, W.d1, W.l2, W.l1, W.ab.symm, W.pp.symm, W.mq, W.mp, W.lq, W.lp, W.lm.symm, W.g2, W.g1⟩
theorem WI.mono {k : Nat} (W : WI K n sl ns a dx pl l b dy pm m now pst now2 pst2 H) (h : n ≤ k) : WI K k sl ns a dx pl l b dy pm m now pst now2 pst2 H := ⟨W.scr, W.d1, W.d2, W.l1, W.l2, W.ab, W.pp, W.lp, W.lq, W.mp, W.mq, W.lm, W.g1.mono h, W.g2.mono h⟩
theorem WI.one {k : Nat} {now' : Shp} {pst' : List Shp} (W : WI K n sl ns a dx pl l b dy pm m now pst now2 pst2 H) (h : n ≤ k) (sm : SameL a pl l H H') (dk : Dk K now' pst' a dx pl H') (la : LAt H' l (pst' ++ [now'])) (gp : GP k now' pst') : WI K k sl ns a dx pl l b dy pm m now' pst' now2 pst2 H' := by
  refine ⟨?_, dk, W.d1.sl W.l1 sm W.d2 W.ab.symm W.pp.symm W.lq.symm, la, LAt.sl W.d1 W.l1 sm W.l2 W.mp W.lm.symm, W.ab, W.pp, W.lp, W.lq, W.mp, W.mq, W.lm, gp, W.g2.mono h⟩
  rcases W.scr with ⟨o, e⟩ | e
  · obtain ⟨⟨nv, hA, _⟩, vs, hP, _⟩ := W.d1
    obtain ⟨ws, el, _⟩ := W.l1
    exact .inl ⟨o, sm _ _ e (fun z => by rw [z, hA] at e; cases e) (fun z => by rw [z, hP] at e; cases e) (fun z => by rw [z, el] at e; cases e)⟩
  · exact .inr e
theorem WI.bkq {Q : Hp → Prop} (W : WI K n sl ns a dx pl l b dy pm m now pst now2 pst2 H)
    (q : ∀ H' now' pst', WI K n sl ns a dx pl l b dy pm m now' pst' now2 pst2 H' → pst'.length ≤ pst.length → Q H') : ∀ H' now' pst', SameL a pl l H H' → Dk K now' pst' a dx pl H' → LAt H' l (pst' ++ [now']) → ((pst = [] ∧ now' = now ∧ pst' = []) ∨ pst = pst' ++ [now']) → Q H' := fun H' now' pst' sm dk la e => by
  rcases e with ⟨e1, e2, e3⟩ | e
  · subst e1 e2 e3
    exact q H' _ _ (W.one (Nat.le_refl n) sm dk la W.g1) (Nat.le_refl _)
  · subst e
    exact q H' _ _ (W.one (Nat.le_refl n) sm dk la ⟨W.g1.2 _ (List.mem_append_right _ List.mem_cons_self), fun s hs => W.g1.2 s (List.mem_append_left _ hs)⟩) (by rw [List.length_append]; omega)
theorem WI.goq {Q : Hp → Prop} (W : WI K n sl ns a dx pl l b dy pm m now pst now2 pst2 H)
    (q : ∀ H' now' pst', WI K (n + 1000000000) sl ns a dx pl l b dy pm m now' pst' now2 pst2 H' → pst'.length ≤ pst.length + 1 → Q H') : ∀ H' now' pst', SameL a pl l H H' → Dk K now' pst' a dx pl H' → LAt H' l (pst' ++ [now']) → GP (n + 1000000000) now' pst' → pst'.length ≤ pst.length + 1 → Q H' := fun H' now' pst' sm dk la gp lp => q H' now' pst' (W.one (by omega) sm dk la gp) lp
/-- the law's own list ends with the desk's shape -/
theorem WI.shape {i j : Nat} {r : R2} {z : Bool} {Q : VK} (W : WI K n sl ns a dx pl l b dy pm m now pst now2 pst2 H) (h1 : σ[i]? = some (some (.ref a))) (h3 : σ[j]? = some (some (.ref l))) (hr : ∀ v u, Im H v (shD now) → Im H u (shD now) → r v u H Q) :
    tOp r (tMeth (He.ga K "Desk") "shape" (spDS K) [] E0 (tVar i) tNil) (tOp (rIx K) (tVar j) (tUn (rU fun i => .int (-i)) (tC (.int 1)))) σ H Q := by
  obtain ⟨nv, hA, _⟩ := W.d1.ins
  obtain ⟨us, el, il⟩ := W.l1
  rw [List.map_append] at il
  obtain ⟨ws, u, rfl, _, iu⟩ := ims_last (d := shD now) il
  exact ⟨_, h1, a, dx, _, rfl, hA, dF_no (by decide) (by decide), a, dx, pl, now, pst, rfl, W.d1, fun v iv => ⟨_, h3, 1, rfl, .inl ⟨l, ws ++ [u], -1, u, rfl, rfl, SqL.of el, at_last _ _, hr v u iv iu⟩⟩⟩
theorem WI.ne {i j : Nat} {Q : VK} (W : WI K n sl ns a dx pl l b dy pm m now pst now2 pst2 H) (h1 : σ[i]? = some (some (.ref a))) (h3 : σ[j]? = some (some (.ref l))) (q : Q (.bl false) H) :
    tOp (rNeD K) (tMeth (He.ga K "Desk") "shape" (spDS K) [] E0 (tVar i) tNil) (tOp (rIx K) (tVar j) (tUn (rU fun i => .int (-i)) (tC (.int 1)))) σ H Q :=
  W.shape (z := true) h1 h3 fun v u iv iu => ⟨shD now, shD now, Im.dp iv, Im.dp iu, shD_shaped _, shD_shaped _, by rw [shD_eqv, decide_eq_true (rfl : now = now)]; exact q⟩
theorem WI.eq {i j : Nat} {Q : VK} (W : WI K n sl ns a dx pl l b dy pm m now pst now2 pst2 H) (h1 : σ[i]? = some (some (.ref a))) (h3 : σ[j]? = some (some (.ref l))) (q : Q (.bl true) H) :
    tOp (rEqD K) (tMeth (He.ga K "Desk") "shape" (spDS K) [] E0 (tVar i) tNil) (tOp (rIx K) (tVar j) (tUn (rU fun i => .int (-i)) (tC (.int 1)))) σ H Q :=
  W.shape (z := true) h1 h3 fun v u iv iu => ⟨shD now, shD now, Im.dp iv, Im.dp iu, shD_shaped _, shD_shaped _, by rw [shD_eqv, decide_eq_true (rfl : now = now)]; exact q⟩
/-! ### the tests of a turn -/
theorem WI.neT {i j : Nat} {Q : Bool → Hp → Prop} (W : WI K n sl ns a dx pl l b dy pm m now pst now2 pst2 H) (h1 : σ[i]? = some (some (.ref a))) (h3 : σ[j]? = some (some (.ref l))) (q : Q false H) :
    tTest (tOp (rNeD K) (tMeth (He.ga K "Desk") "shape" (spDS K) [] E0 (tVar i) tNil) (tOp (rIx K) (tVar j) (tUn (rU fun i => .int (-i)) (tC (.int 1))))) σ H Q := W.ne h1 h3 ⟨false, rfl, q⟩
theorem test_back {Q : Bool → Hp → Prop} {w : Int} (W : WI K n sl ns a dx pl l b dy pm m now pst now2 pst2 H) (hn : n ≤ 1000000000000) (hp : pst.length < 1000) (h1 : σ[1]? = some (some (.ref a))) (h3 : σ[3]? = some (some (.ref l))) (h7 : σ[7]? = some (some (.int w)))
    (q : ∀ H' now' pst', WI K n sl ns a dx pl l b dy pm m now' pst' now2 pst2 H' → pst'.length ≤ pst.length → Q false H') :
    tAnd (tTest (tOp (rI0 fun i j => .bl (decide (i < j))) (tVar 7) (tC (.int 2)))) (tNot (tB (tCall (spBk K) [] E0 (tCons (tVar 1) (tCons (tVar 3) tNil))))) σ H Q := by
  refine ⟨_, h7, _, _, rfl, rfl, decide (w < 2), rfl, ?_⟩
  by_cases c : w < 2
  · rw [decide_eq_true c]
    exact iteT ⟨_, h1, _, h3, a, dx, pl, l, now, pst, n, rfl, W.d1, W.l1, W.lp, W.g1, hn, hp, W.bkq fun H' now' pst' W' le => ⟨true, rfl, q H' now' pst' W' le⟩⟩
  · rw [decide_eq_false c]
    exact iteF (q H now pst W (Nat.le_refl _))
theorem test_put {Q : Bool → Hp → Prop} {w : Int} (W : WI K n sl ns a dx pl l b dy pm m now pst now2 pst2 H) (h1 : σ[1]? = some (some (.ref a))) (h3 : σ[3]? = some (some (.ref l))) (h7 : σ[7]? = some (some (.int w)))
    (q : ∀ H', WI K n sl ns a dx pl l b dy pm m now pst now2 pst2 H' → Q false H') :
    tAnd (tTest (tOp (rEqD K) (tVar 7) (tC (.int 2)))) (tOr (tTest (tOp (rNeD K) (tCall (spRf K) [] E0 (tCons (tVar 1) (tCons (tC (.str "put 1")) tNil))) (tC (.str "text")))) (tTest (tOp (rNeD K) (tMeth (He.ga K "Desk") "shape" (spDS K) [] E0 (tVar 1) tNil) (tOp (rIx K) (tVar 3) (tUn (rU fun i => .int (-i)) (tC (.int 1))))))) σ H Q := by
  refine ⟨_, h7, .int w, .int 2, .int _, .int _, int_shaped _, int_shaped _, decide (w = 2), congrArg V.bl (int_eqv w 2), ?_⟩
  by_cases c : w = 2
  · rw [decide_eq_true c]
    refine iteT ⟨_, h1, "NoText", a, dx, pl, now, pst, .put, ⟨_, rfl⟩, W.d1, fun H1 g1 => ?_⟩
    have W1 := W.gr g1
    rw [show refF "NoText" = "text" by decide +kernel]
    exact ⟨.str "text", .str "text", .str _, .str _, str_shaped (by decide +kernel), str_shaped (by decide +kernel), false, congrArg V.bl (no_ne "text" rfl), iteF (W1.neT h1 h3 (q H1 W1))⟩
  · rw [decide_eq_false c]
    exact iteF (q H W)
theorem test_has {Q : Bool → Hp → Prop} {w : Int} (W : WI K n sl ns a dx pl l b dy pm m now pst now2 pst2 H) (hp : pst.length < 1000) (h1 : σ[1]? = some (some (.ref a))) (h3 : σ[3]? = some (some (.ref l))) (h7 : σ[7]? = some (some (.int w)))
    (q : ∀ H', WI K n sl ns a dx pl l b dy pm m now pst now2 pst2 H' → Q false H') :
    tAnd (tTest (tOp (rEqD K) (tVar 7) (tC (.int 3)))) (tOr (tTest (tOp (xIn K true) (tMeth (He.ga K "Desk") "say" (spSay K) [] E0 (tVar 1) (tCons (tC (.str "has 0 0")) tNil)) (tTup (tCons (tC (.str "yes")) (tCons (tC (.str "no")) tNil))))) (tTest (tOp (rNeD K) (tMeth (He.ga K "Desk") "shape" (spDS K) [] E0 (tVar 1) tNil) (tOp (rIx K) (tVar 3) (tUn (rU fun i => .int (-i)) (tC (.int 1))))))) σ H Q := by
  refine ⟨_, h7, .int w, .int 3, .int _, .int _, int_shaped _, int_shaped _, decide (w = 3), congrArg V.bl (int_eqv w 3), ?_⟩
  by_cases c : w = 3
  · rw [decide_eq_true c]
    obtain ⟨nv, hA, _⟩ := W.d1.ins
    have er : rowT (.cell "has" (0, 0)) = "has 0 0" := by decide +kernel
    refine iteT ⟨_, h1, a, dx, _, rfl, hA, dF_no (by decide) (by decide), a, dx, pl, now, now, pst, pst, .cell "has" (0, 0), anF now (.cell "has" (0, 0)), by rw [er] <;> rfl, W.d1, row_far (0, 0) (by decide +kernel) "has" (by decide), hp, .ask (r := .cell "has" (0, 0)) rfl (by have := W.g1.1.le; omega), fun H1 sm dk => ?_⟩
    have W1 := W.one (Nat.le_refl n) (fun b o e n1 n2 _ => sm b o e n1 n2) dk (by
      obtain ⟨us, el, il⟩ := W.l1
      obtain ⟨us2, hP, _⟩ := W.d1.lst
      refine ⟨us, sm l _ el (W.d1.ne W.l1).symm W.lp, ims_sb (fun c us e => sm c _ e (fun z => by rw [z, hA] at e; cases e) (fun z => by rw [z, hP] at e; cases e)) il⟩) W.g1
    refine ⟨by show 2 ≤ sizeLine; rw [sizeLine_eq]; decide, fun p hp => ?_⟩
    have g2 := Gr.new (.tup [V.str "yes", .str "no"]) hp
    have W2 := W1.gr g2
    refine ⟨.str (anF now (.cell "has" (0, 0))), ([("yes" : Str), "no"].map .str), .str _, .tup (SqT.of upd_same) (.cons (.str _) (.cons (.str _) .nil)), str_shaped ?_, strs_shaped (by decide +kernel), false, ?_, iteF (W2.neT h1 h3 (q _ W2))⟩
    · show PyData.strOk (if hasB now (0, 0) = true then "yes" else "no") = true
      split <;> decide +kernel
    · refine congrArg V.bl ?_
      rw [any_str]
      show (!decide ((if hasB now (0, 0) = true then ("yes" : Str) else "no") ∈ [("yes" : Str), "no"])) = false
      split <;> decide +kernel
  · rw [decide_eq_false c]
    exact iteF (q H W)
theorem test_thin {Q : Bool → Hp → Prop} (W : WI K n sl ns a dx pl l b dy pm m now pst now2 pst2 H) (h1 : σ[1]? = some (some (.ref a))) (h3 : σ[3]? = some (some (.ref l)))
    (q : ∀ H', WI K n sl ns a dx pl l b dy pm m now pst now2 pst2 H' → Q false H') :
    tAnd (tB (tOp (rIx K) (tOp (rIx K) (tVar 3) (tUn (rU fun i => .int (-i)) (tC (.int 1)))) (tC (.int 1)))) (tOr (tTest (tOp (rNeD K) (tCall (spRf K) [] E0 (tCons (tVar 1) (tCons (tC (.str "thin")) tNil))) (tC (.str "other")))) (tTest (tOp (rNeD K) (tMeth (He.ga K "Desk") "shape" (spDS K) [] E0 (tVar 1) tNil) (tOp (rIx K) (tVar 3) (tUn (rU fun i => .int (-i)) (tC (.int 1))))))) σ H Q := by
  obtain ⟨us, el, il⟩ := W.l1
  rw [List.map_append] at il
  obtain ⟨ws, u, rfl, _, iu⟩ := ims_last (d := shD now) il
  obtain ⟨p, ts, rfl, ep, ip⟩ := iu.tup_v
  cases ip with
  | cons i1 i2 =>
    cases i2 with
    | cons i2 i3 =>
      cases i3
      cases i2.bl_v
      refine ⟨_, h3, 1, rfl, .inl ⟨l, _, -1, _, rfl, rfl, SqL.of el, at_last _ _, .inr (.inl ⟨p, _, 1, _, rfl, rfl, SqT.of ep, rfl, now.2, rfl, ?_⟩)⟩⟩
      obtain ⟨cs, r⟩ := now
      cases r with
      | false => exact iteF (q H W)
      | true =>
        refine iteT ⟨_, h1, "Endless", a, dx, pl, (cs, true), pst, by have := BadRow.thin W.d1; rw [row_bare] at this; exact this, ⟨_, rfl⟩, W.d1, fun H1 g1 => ?_⟩
        have W1 := W.gr g1
        rw [show refF "Endless" = "other" by decide +kernel]
        exact ⟨.str "other", .str "other", .str _, .str _, str_shaped (by decide +kernel), str_shaped (by decide +kernel), false, congrArg V.bl (no_ne "other" rfl), iteF (W1.neT h1 h3 (q H1 W1))⟩
theorem test_go {Q : Bool → Hp → Prop} {w c : Int} (W : WI K n sl ns a dx pl l b dy pm m now pst now2 pst2 H) (hn : n + 1000000000 ≤ 1000000000000) (hp : pst.length < 900) (h1 : σ[1]? = some (some (.ref a))) (h3 : σ[3]? = some (some (.ref l))) (h6 : σ[6]? = some (some (.int c))) (h7 : σ[7]? = some (some (.int w)))
    (q : ∀ H' now' pst', WI K (n + 1000000000) sl ns a dx pl l b dy pm m now' pst' now2 pst2 H' → pst'.length ≤ pst.length + 1 → Q false H') :
    tAnd (tTest (tOp (rI0 fun i j => .bl (decide (j < i))) (tVar 7) (tC (.int 1)))) (tNot (tB (tCall (spGo K) [] E0 (tCons (tVar 1) (tCons (tVar 3) (tCons (tCall (spD R_law_deed) [] E0 (tCons (tVar 6) tNil)) tNil)))))) σ H Q := by
  refine ⟨_, h7, _, _, rfl, rfl, decide (1 < w), rfl, ?_⟩
  by_cases cw : 1 < w
  · rw [decide_eq_true cw]
    refine iteT ⟨_, h1, _, h3, _, h6, [.im (.int c)], .im (deedD (deedF c)), .cons (.int _) .nil, ⟨c, rfl, rfl⟩, fun v H1 g1 iv => ?_⟩
    have W1 := W.gr g1
    exact ⟨a, dx, pl, l, v, now, pst, deedF c, n, rfl, W1.d1, W1.l1, W1.lp, iv, deed_good c, W1.g1, hn, hp, W1.goq fun H' now' pst' W' le => ⟨true, rfl, q H' now' pst' W' le⟩⟩
  · rw [decide_eq_false cw]
    exact iteF (q H now pst (W.mono (by omega)) (by omega))
theorem test_go2 {Q : Bool → Hp → Prop} {k c : Int} (W : WI K n sl ns a dx pl l b dy pm m now pst now2 pst2 H) (hn : n + 1000000000 ≤ 1000000000000) (hp : pst2.length < 900) (h2 : σ[2]? = some (some (.ref b))) (h4 : σ[4]? = some (some (.ref m))) (h6 : σ[6]? = some (some (.int c))) (h5 : σ[5]? = some (some (.int k)))
    (q : ∀ H' now2' pst2', WI K (n + 1000000000) sl ns a dx pl l b dy pm m now pst now2' pst2' H' → pst2'.length ≤ pst2.length + 1 → Q false H') :
    tAnd (tTest (tOp (rEqD K) (tOp (rI (fun _ j => 0 < j) fun i j => .int (i % j)) (tVar 5) (tC (.int 3))) (tC (.int 0)))) (tNot (tB (tCall (spGo K) [] E0 (tCons (tVar 2) (tCons (tVar 4) (tCons (tCall (spD R_law_deed) [] E0 (tCons (tOp (xAdd K) (tVar 6) (tC (.int 1))) tNil)) tNil)))))) σ H Q := by
  refine ⟨_, h5, _, _, rfl, rfl, (by decide : (0 : Int) < 3), .int (k % 3), .int 0, .int _, .int _, int_shaped _, int_shaped _, decide (k % 3 = 0), congrArg V.bl (int_eqv (k % 3) 0), ?_⟩
  by_cases ck : k % 3 = 0
  · rw [decide_eq_true ck]
    refine iteT ⟨_, h2, _, h4, _, h6, .inl (.inl ⟨_, _, rfl, rfl, [.im (.int (c + 1))], .im (deedD (deedF (c + 1))), .cons (.int _) .nil, ⟨c + 1, rfl, rfl⟩, fun v H1 g1 iv => ?_⟩)⟩
    have W1 := (W.gr g1).swap
    exact ⟨b, dy, pm, m, v, now2, pst2, deedF (c + 1), n, rfl, W1.d1, W1.l1, W1.lp, iv, deed_good (c + 1), W1.g1, hn, hp, W1.goq fun H' now' pst' W' le => ⟨true, rfl, q H' now' pst' W'.swap le⟩⟩
  · rw [decide_eq_false ck]
    exact iteF (q H now2 pst2 (W.mono (by omega)) (by omega))
end
end K91
/-! ==== K37 -/
set_option maxRecDepth 100000
set_option maxHeartbeats 4000000
namespace K91
open PySem PySem.Spec PyProof.Rows L2 SG DL
variable {P : Program} {w : World} {K : PySem.W.Frag} {mg : Str → Option Value} {base : Heap}
/-! ### law -/
theorem sc_law : FnScope ["script", "desk", "beside", "past", "other", "k", "cell", "way", "turn"] ["script"] (defScope s_law) := ⟨rfl, rfl, rfl, by decide +kernel, rfl, by decide +kernel, by decide +kernel⟩
def t_law (K : PySem.W.Frag) (P : Program) (w : World) : TS := tSeq (tAsg (tMake (He.ga K "Desk") (spDI K) [] E0 tNil) (gName 1)) (tSeq (tAsg (tMake (He.ga K "Desk") (spDI K) [] E0 tNil) (gName 2)) (tSeq (tAsg (tLst (tCons (tTup (tCons (tTup (tNil)) (tCons (tC (.bl false)) (tNil)))) (tNil))) (gName 3)) (tSeq (tAsg (tLst (tCons (tTup (tCons (tTup (tNil)) (tCons (tC (.bl false)) (tNil)))) (tNil))) (gName 4)) (tSeq (tFor (iRng1 (tCons (tCB (xMin) (tCons (tCB (xLen K) (tCons (tVar 0) (tNil))) (tCons (tC (.int 200)) (tNil)))) (tNil))) (gName 5) (tSeq (tAsg (tOp (rIx K) (tVar 0) (tVar 5)) (gName 6)) (tSeq (tAsg (tOp (rI (fun _ j => 0 < j) fun i j => .int (i % j)) (tOp (rI CDivW fun i j => .int (i / j)) (tCall (spD R_law_deal) [] E0 (tCons (tVar 6) (tCons (tC (.int 2)) (tNil)))) (tC (.int 7))) (tC (.int 6))) (gName 7)) (tSeq (tIfS (tAnd (tTest (tOp (rI0 fun i j => .bl (decide (i < j))) (tVar 7) (tC (.int 2)))) (tNot (tB (tCall (spBk K) [] E0 (tCons (tVar 1) (tCons (tVar 3) (tNil))))))) (tRet (tC (.bl false))) (tNext)) (tSeq (tIfS (tAnd (tTest (tOp (rEqD K) (tVar 7) (tC (.int 2)))) (tOr (tTest (tOp (rNeD K) (tCall (spRf K) [] E0 (tCons (tVar 1) (tCons (tC (.str "put 1")) (tNil)))) (tC (.str "text")))) (tTest (tOp (rNeD K) (tMeth (He.ga K "Desk") "shape" (spDS K) [] E0 (tVar 1) tNil) (tOp (rIx K) (tVar 3) (tUn (rU fun i => .int (-i)) (tC (.int 1)))))))) (tRet (tC (.bl false))) (tNext)) (tSeq (tIfS (tAnd (tTest (tOp (rEqD K) (tVar 7) (tC (.int 3)))) (tOr (tTest (tOp (xIn K true) (tMeth (He.ga K "Desk") "say" (spSay K) [] E0 (tVar 1) (tCons (tC (.str "has 0 0")) (tNil))) (tTup (tCons (tC (.str "yes")) (tCons (tC (.str "no")) (tNil)))))) (tTest (tOp (rNeD K) (tMeth (He.ga K "Desk") "shape" (spDS K) [] E0 (tVar 1) tNil) (tOp (rIx K) (tVar 3) (tUn (rU fun i => .int (-i)) (tC (.int 1)))))))) (tRet (tC (.bl false))) (tNext)) (tSeq (tIfS (tAnd (tB (tOp (rIx K) (tOp (rIx K) (tVar 3) (tUn (rU fun i => .int (-i)) (tC (.int 1)))) (tC (.int 1)))) (tOr (tTest (tOp (rNeD K) (tCall (spRf K) [] E0 (tCons (tVar 1) (tCons (tC (.str "thin")) (tNil)))) (tC (.str "other")))) (tTest (tOp (rNeD K) (tMeth (He.ga K "Desk") "shape" (spDS K) [] E0 (tVar 1) tNil) (tOp (rIx K) (tVar 3) (tUn (rU fun i => .int (-i)) (tC (.int 1)))))))) (tRet (tC (.bl false))) (tNext)) (tSeq (tIfS (tAnd (tTest (tOp (rI0 fun i j => .bl (decide (j < i))) (tVar 7) (tC (.int 1)))) (tNot (tB (tCall (spGo K) [] E0 (tCons (tVar 1) (tCons (tVar 3) (tCons (tCall (spD R_law_deed) [] E0 (tCons (tVar 6) (tNil))) (tNil)))))))) (tRet (tC (.bl false))) (tNext)) (tIfS (tAnd (tTest (tOp (rEqD K) (tOp (rI (fun _ j => 0 < j) fun i j => .int (i % j)) (tVar 5) (tC (.int 3))) (tC (.int 0)))) (tNot (tB (tCall (spGo K) [] E0 (tCons (tVar 2) (tCons (tVar 4) (tCons (tCall (spD R_law_deed) [] E0 (tCons (tOp (xAdd K) (tVar 6) (tC (.int 1))) (tNil))) (tNil)))))))) (tRet (tC (.bl false))) (tNext)))))))))) (tSeq (tIfS (tOr (tTest (tOp (rNeD K) (tMeth (He.ga K "Desk") "shape" (spDS K) [] E0 (tVar 1) tNil) (tOp (rIx K) (tVar 3) (tUn (rU fun i => .int (-i)) (tC (.int 1)))))) (tTest (tOp (rNeD K) (tMeth (He.ga K "Desk") "shape" (spDS K) [] E0 (tVar 2) tNil) (tOp (rIx K) (tVar 4) (tUn (rU fun i => .int (-i)) (tC (.int 1))))))) (tRet (tC (.bl false))) (tNext)) (tSeq (tFor (iRng1 (tCons (tCB (xLen K) (tCons (tVar 3) (tNil))) (tNil))) (gName 8) (tIfS (tNot (tB (tCall (spBk K) [] E0 (tCons (tVar 1) (tCons (tVar 3) (tNil)))))) (tRet (tC (.bl false))) (tNext))) (tRet (tAndV (tOp (rEqD K) (tMeth (He.ga K "Desk") "shape" (spDS K) [] E0 (tVar 2) tNil) (tOp (rIx K) (tVar 4) (tUn (rU fun i => .int (-i)) (tC (.int 1))))) (tCall (spBk K) [] E0 (tCons (tVar 2) (tCons (tVar 4) (tNil))))))))))))
def spLaw (K : PySem.W.Frag) : Sp := fun vs H Q _ => ∃ (sl : Addr) (ns : List Int), vs = [.ref sl] ∧ ScrAt K sl ns H ∧ ∀ H', Q (.bl true) H'
def sg (sl a b l m : Addr) (x5 x6 x7 x8 : Option V) : L2.St := [some (.ref sl), some (.ref a), some (.ref b), some (.ref l), some (.ref m), x5, x6, x7, x8]
section
variable {n : Nat} {sl : Addr} {ns : List Int} {a dx pl l b dy pm m : Addr} {now : Shp} {pst : List Shp} {now2 : Shp} {pst2 : List Shp} {H H' : Hp} {σ : L2.St}
theorem asg_cell {D : Ends} {i c : Int} (sc : ScrAt K sl ns H) (h0 : σ[0]? = some (some (.ref sl))) (h5 : σ[5]? = some (some (.int i))) (hat : L2.atI (ns.map V.int) i = some (.int c)) (q : D.nx (σ.set 6 (some (.int c))) H) : (tAsg (tOp (rIx K) (tVar 0) (tVar 5)) (gName 6)) D σ H :=
  ⟨_, h0, _, h5, .inl ⟨sl, ns.map V.int, i, .int c, rfl, rfl, sc.sq, hat, q⟩⟩
theorem asg_way {D : Ends} {c : Int} (h6 : σ[6]? = some (some (.int c))) (q : ∀ ww H1, Gr H H1 → D.nx (σ.set 7 (some (.int ww))) H1) : (tAsg (tOp (rI (fun _ j => 0 < j) fun i j => .int (i % j)) (tOp (rI CDivW fun i j => .int (i / j)) (tCall (spD R_law_deal) [] E0 (tCons (tVar 6) (tCons (tC (.int 2)) (tNil)))) (tC (.int 7))) (tC (.int 6))) (gName 7)) D σ H := by
  refine ⟨_, h6, [.im (.int c), .im (.int 2)], .im (.int (dealF c 2)), .cons (.int _) (.cons (.int _) .nil), ⟨c, 2, rfl, by decide, rfl⟩, fun v H1 g1 i1 => ?_⟩
  cases Im.int_v i1
  exact ⟨_, _, rfl, rfl, cdivw (by decide) (by decide), _, _, rfl, rfl, (by decide : (0 : Int) < 6), q _ H1 g1⟩
theorem turn_law (D : Ends) (i : Nat) (c : Int) (x6 x7 x8 : Option V) (hc : ns[i]? = some c) (hi : i < 200) (W : WI K n sl ns a dx pl l b dy pm m now pst now2 pst2 H) (hn : n + 2000000000 ≤ 1000000000000) (hp : pst.length ≤ i) (hp2 : pst2.length ≤ i)
    (q : ∀ x7' H' now' pst' now2' pst2', WI K (n + 2000000000) sl ns a dx pl l b dy pm m now' pst' now2' pst2' H' → pst'.length ≤ i + 1 → pst2'.length ≤ i + 1 → D.nx (sg sl a b l m (some (.int (0 + (i : Int)))) (some (.int c)) x7' x8) H') :
    (tSeq (tAsg (tOp (rIx K) (tVar 0) (tVar 5)) (gName 6)) (tSeq (tAsg (tOp (rI (fun _ j => 0 < j) fun i j => .int (i % j)) (tOp (rI CDivW fun i j => .int (i / j)) (tCall (spD R_law_deal) [] E0 (tCons (tVar 6) (tCons (tC (.int 2)) (tNil)))) (tC (.int 7))) (tC (.int 6))) (gName 7)) (tSeq (tIfS (tAnd (tTest (tOp (rI0 fun i j => .bl (decide (i < j))) (tVar 7) (tC (.int 2)))) (tNot (tB (tCall (spBk K) [] E0 (tCons (tVar 1) (tCons (tVar 3) (tNil))))))) (tRet (tC (.bl false))) (tNext)) (tSeq (tIfS (tAnd (tTest (tOp (rEqD K) (tVar 7) (tC (.int 2)))) (tOr (tTest (tOp (rNeD K) (tCall (spRf K) [] E0 (tCons (tVar 1) (tCons (tC (.str "put 1")) (tNil)))) (tC (.str "text")))) (tTest (tOp (rNeD K) (tMeth (He.ga K "Desk") "shape" (spDS K) [] E0 (tVar 1) tNil) (tOp (rIx K) (tVar 3) (tUn (rU fun i => .int (-i)) (tC (.int 1)))))))) (tRet (tC (.bl false))) (tNext)) (tSeq (tIfS (tAnd (tTest (tOp (rEqD K) (tVar 7) (tC (.int 3)))) (tOr (tTest (tOp (xIn K true) (tMeth (He.ga K "Desk") "say" (spSay K) [] E0 (tVar 1) (tCons (tC (.str "has 0 0")) (tNil))) (tTup (tCons (tC (.str "yes")) (tCons (tC (.str "no")) (tNil)))))) (tTest (tOp (rNeD K) (tMeth (He.ga K "Desk") "shape" (spDS K) [] E0 (tVar 1) tNil) (tOp (rIx K) (tVar 3) (tUn (rU fun i => .int (-i)) (tC (.int 1)))))))) (tRet (tC (.bl false))) (tNext)) (tSeq (tIfS (tAnd (tB (tOp (rIx K) (tOp (rIx K) (tVar 3) (tUn (rU fun i => .int (-i)) (tC (.int 1)))) (tC (.int 1)))) (tOr (tTest (tOp (rNeD K) (tCall (spRf K) [] E0 (tCons (tVar 1) (tCons (tC (.str "thin")) (tNil)))) (tC (.str "other")))) (tTest (tOp (rNeD K) (tMeth (He.ga K "Desk") "shape" (spDS K) [] E0 (tVar 1) tNil) (tOp (rIx K) (tVar 3) (tUn (rU fun i => .int (-i)) (tC (.int 1)))))))) (tRet (tC (.bl false))) (tNext)) (tSeq (tIfS (tAnd (tTest (tOp (rI0 fun i j => .bl (decide (j < i))) (tVar 7) (tC (.int 1)))) (tNot (tB (tCall (spGo K) [] E0 (tCons (tVar 1) (tCons (tVar 3) (tCons (tCall (spD R_law_deed) [] E0 (tCons (tVar 6) (tNil))) (tNil)))))))) (tRet (tC (.bl false))) (tNext)) (tIfS (tAnd (tTest (tOp (rEqD K) (tOp (rI (fun _ j => 0 < j) fun i j => .int (i % j)) (tVar 5) (tC (.int 3))) (tC (.int 0)))) (tNot (tB (tCall (spGo K) [] E0 (tCons (tVar 2) (tCons (tVar 4) (tCons (tCall (spD R_law_deed) [] E0 (tCons (tOp (xAdd K) (tVar 6) (tC (.int 1))) (tNil))) (tNil)))))))) (tRet (tC (.bl false))) (tNext))))))))) D (sg sl a b l m (some (.int (0 + (i : Int)))) x6 x7 x8) H := by
  have hat : L2.atI (ns.map V.int) (0 + (i : Int)) = some (.int c) := by
    rw [Int.zero_add]
    exact atI_nat (by rw [List.getElem?_map, hc] <;> rfl)
  refine asg_cell (c := c) W.scr rfl rfl hat ?_
  refine asg_way (c := c) rfl fun ww H1 g1 => ?_
  have W1 := W.gr g1
  refine test_back (σ := sg sl a b l m (some (.int (0 + (i : Int)))) (some (.int c)) (some (.int ww)) x8) W1 (by omega) (by omega) rfl rfl rfl fun H2 now' pst' W2 le => iteF ?_
  refine test_put (σ := sg sl a b l m (some (.int (0 + (i : Int)))) (some (.int c)) (some (.int ww)) x8) W2 rfl rfl rfl fun H3 W3 => iteF ?_
  refine test_has (σ := sg sl a b l m (some (.int (0 + (i : Int)))) (some (.int c)) (some (.int ww)) x8) W3 (by omega) rfl rfl rfl fun H4 W4 => iteF ?_
  refine test_thin (σ := sg sl a b l m (some (.int (0 + (i : Int)))) (some (.int c)) (some (.int ww)) x8) W4 rfl rfl fun H5 W5 => iteF ?_
  obtain ⟨k1, e1⟩ : ∃ k1, k1 = n + 1000000000 := ⟨_, rfl⟩
  refine test_go (σ := sg sl a b l m (some (.int (0 + (i : Int)))) (some (.int c)) (some (.int ww)) x8) W5 (by omega) (by omega) rfl rfl rfl rfl fun H6 now6 pst6 W6 le6 => iteF ?_
  rw [← e1] at W6
  obtain ⟨k2, e2⟩ : ∃ k2, k2 = k1 + 1000000000 := ⟨_, rfl⟩
  refine test_go2 (σ := sg sl a b l m (some (.int (0 + (i : Int)))) (some (.int c)) (some (.int ww)) x8) W6 (by omega) (by omega) rfl rfl rfl rfl fun H7 now7 pst7 W7 le7 => iteF ?_
  rw [← e2] at W7
  exact q _ H7 now6 pst6 now7 pst7 (W7.mono (k := n + 2000000000) (by omega)) (by omega) (by omega)
theorem test_both {Q : Bool → Hp → Prop} (W : WI K n sl ns a dx pl l b dy pm m now pst now2 pst2 H) (h1 : σ[1]? = some (some (.ref a))) (h3 : σ[3]? = some (some (.ref l))) (h2 : σ[2]? = some (some (.ref b))) (h4 : σ[4]? = some (some (.ref m))) (q : Q false H) :
    tOr (tTest (tOp (rNeD K) (tMeth (He.ga K "Desk") "shape" (spDS K) [] E0 (tVar 1) tNil) (tOp (rIx K) (tVar 3) (tUn (rU fun i => .int (-i)) (tC (.int 1)))))) (tTest (tOp (rNeD K) (tMeth (He.ga K "Desk") "shape" (spDS K) [] E0 (tVar 2) tNil) (tOp (rIx K) (tVar 4) (tUn (rU fun i => .int (-i)) (tC (.int 1)))))) σ H Q := WI.neT (Q := fun c H1 => if c = true then Q true H1 else tTest (tOp (rNeD K) (tMeth (He.ga K "Desk") "shape" (spDS K) [] E0 (tVar 2) tNil) (tOp (rIx K) (tVar 4) (tUn (rU fun i => .int (-i)) (tC (.int 1))))) σ H1 Q) W h1 h3 (iteF (W.swap.neT h2 h4 q))
theorem tail_law {Q : VK} (nx : L2.St → Hp → Prop) (x5 x6 x7 x8 : Option V) (W : WI K n sl ns a dx pl l b dy pm m now pst now2 pst2 H) (hn : n ≤ 1000000000000) (hp : pst.length ≤ 200) (hp2 : pst2.length ≤ 200) (q : ∀ H', Q (.bl true) H') :
    (tSeq (tIfS (tOr (tTest (tOp (rNeD K) (tMeth (He.ga K "Desk") "shape" (spDS K) [] E0 (tVar 1) tNil) (tOp (rIx K) (tVar 3) (tUn (rU fun i => .int (-i)) (tC (.int 1)))))) (tTest (tOp (rNeD K) (tMeth (He.ga K "Desk") "shape" (spDS K) [] E0 (tVar 2) tNil) (tOp (rIx K) (tVar 4) (tUn (rU fun i => .int (-i)) (tC (.int 1))))))) (tRet (tC (.bl false))) (tNext)) (tSeq (tFor (iRng1 (tCons (tCB (xLen K) (tCons (tVar 3) (tNil))) (tNil))) (gName 8) (tIfS (tNot (tB (tCall (spBk K) [] E0 (tCons (tVar 1) (tCons (tVar 3) (tNil)))))) (tRet (tC (.bl false))) (tNext))) (tRet (tAndV (tOp (rEqD K) (tMeth (He.ga K "Desk") "shape" (spDS K) [] E0 (tVar 2) tNil) (tOp (rIx K) (tVar 4) (tUn (rU fun i => .int (-i)) (tC (.int 1))))) (tCall (spBk K) [] E0 (tCons (tVar 2) (tCons (tVar 4) (tNil)))))))) { nx := nx, rt := Q } (sg sl a b l m x5 x6 x7 x8) H := by
  refine test_both (σ := sg sl a b l m x5 x6 x7 x8) W rfl rfl rfl rfl (iteF ?_)
  obtain ⟨us, el, il⟩ := W.l1
  have lu : us.length = pst.length + 1 := by rw [il.len, List.length_map, List.length_append] <;> rfl
  refine ⟨_, rfl, .ref l, us.length, rfl, .inl ⟨us, SqL.of el, rfl⟩, _, rfl, by omega, by omega, fun k mm σ' H' => k + mm = us.length ∧ ∃ (x8 : Option V) (now : Shp) (pst : List Shp), σ' = sg sl a b l m x5 x6 x7 x8 ∧ WI K n sl ns a dx pl l b dy pm m now pst now2 pst2 H' ∧ pst.length ≤ 200, ⟨us.length, Nat.zero_add _, x8, now, pst, rfl, W, hp⟩, ?_⟩
  rintro k mm σ' H' ⟨hk, x8, now, pst, rfl, W, hp⟩
  by_cases c : k < us.length
  · refine .inr ⟨?_, fun σ2 H2 => k + 1 + (mm - 1) = us.length ∧ ∃ (x8 : Option V) (now : Shp) (pst : List Shp), σ2 = sg sl a b l m x5 x6 x7 x8 ∧ WI K n sl ns a dx pl l b dy pm m now pst now2 pst2 H2 ∧ pst.length ≤ 200, fun σ2 H2 j => ⟨mm - 1, by omega, j⟩, fun x H2 y => ?_⟩
    · show k < ((us.length : Nat) : Int).toNat
      rw [Int.toNat_natCast]
      exact c
    · obtain ⟨e1, e2⟩ := y
      subst e1 e2
      exact ⟨_, rfl, _, rfl, a, dx, pl, l, now, pst, n, rfl, W.d1, W.l1, W.lp, W.g1, hn, by omega, W.bkq fun H' now' pst' W' le => ⟨true, rfl, iteF ⟨by omega, _, now', pst', rfl, W', by omega⟩⟩⟩
  · refine .inl ⟨?_, ?_⟩
    · show ((us.length : Nat) : Int).toNat ≤ k
      rw [Int.toNat_natCast]
      omega
    · have W := W.swap
      exact WI.eq (σ := sg sl a b l m x5 x6 x7 x8) (i := 2) (j := 4) W rfl rfl ⟨true, rfl, iteT ⟨_, rfl, _, rfl, b, dy, pm, m, now2, pst2, n, rfl, W.d1, W.l1, W.lp, W.g1, hn, by omega, W.bkq fun H' now' pst' W' le => q H'⟩⟩
end
theorem st_none (σ : L2.St) (H : Hp) : DL.St H σ H (σ.map fun _ => none) := by
  have no : ∀ {i : Nat} {x : SV}, (σ.map fun _ => (none : Option SV))[i]? ≠ some (some x) := fun {i x} e => by
    rw [List.getElem?_map] at e
    obtain ⟨y, _, e⟩ := Option.map_eq_some_iff.mp e
    cases e
  exact ⟨.refl H, by rw [List.length_map], fun i x e => absurd e no, fun i j x y v n e => absurd e no⟩
theorem es_first {ρ : Rho} : EvS (tLst (tCons (tTup (tCons (tTup (tNil)) (tCons (tC (.bl false)) (tNil)))) (tNil))) ρ (.own [shD ([], false)]) := es_lst (ds := [shD ([], false)]) (ea_cons (es_tup (ds := [csD [], .bool false]) (ea_cons (es_tup (ds := []) ea_nil) (ea_cons es_bl ea_nil))) ea_nil)
theorem made_gr {H H1 : Hp} {C x dx : Addr} (hx : H x = none) (hd : H dx = none) (s1 : ∀ b o, upd (upd H dx (.own x)) x (.ins C dx []) b = some o → b ≠ x → H1 b = some o) : Gr H H1 := fun b o e => by
  have n1 : b ≠ x := fun z => by rw [z, hx] at e; cases e
  have n2 : b ≠ dx := fun z => by rw [z, hd] at e; cases e
  exact s1 b o (by rw [upd_ne n1, upd_ne n2]; exact e) n1
theorem asg_first {i : Nat} {D : Ends} {σ : L2.St} {H : Hp} (q : ∀ l vl H1, Gr H H1 → H l = none → H1 l = some (.lst vl) → Ims H1 vl [shD ([], false)] → D.nx (σ.set i (some (.ref l))) H1) : tAsg (tLst (tCons (tTup (tCons (tTup (tNil)) (tCons (tC (.bl false)) (tNil)))) (tNil))) (gName i) D σ H :=
  es_first H σ H _ (st_none σ H) fun v H1 g r => by
    obtain ⟨l, vl, rfl, nl, el, il⟩ := r
    exact q l vl H1 g nl el il
theorem asg_make {i : Nat} {D : Ends} {σ : L2.St} {H : Hp} (q : ∀ a dx pl H1, Gr H H1 → H a = none → (∀ b o, H b = some o → b ≠ pl) → Dk K ([], false) [] a dx pl H1 → D.nx (σ.set i (some (.ref a))) H1) : tAsg (tMake (He.ga K "Desk") (spDI K) [] E0 tNil) (gName i) D σ H := by
  intro a dx ha hdx hne
  refine ⟨a, dx, rfl, upd_same, fun H1 pl s1 hpl dk1 => ⟨rfl, q a dx pl H1 (made_gr ha hdx s1) ha (fun b o e z => ?_) dk1⟩⟩
  have n1 : b ≠ a := fun z => by rw [z, ha] at e; cases e
  have n2 : b ≠ dx := fun z => by rw [z, hdx] at e; cases e
  rw [← z, upd_ne n1, upd_ne n2, e] at hpl
  cases hpl
theorem len_law : ∀ vs H Q E, spLaw K vs H Q E → vs.length = 1 := by
  rintro vs H Q E ⟨_, _, rfl, _⟩
  rfl
theorem GS0 : GS 0 ([], false) := ⟨.nil, Nat.zero_le _, fun _ z => nomatch z⟩
theorem run_law (vs : List V) (H : Hp) (Q : VK) (E : XK) (h : spLaw K vs H Q E) : t_law K P w { nx := fun _ H' => Q .non H', rt := Q } (L2.start ["script", "desk", "beside", "past", "other", "k", "cell", "way", "turn"] vs) H := by
  obtain ⟨sl, ns, rfl, sc, q⟩ := h
  refine asg_make fun a dx pl H1 g1 ha hpl dk1 => ?_
  refine asg_make fun b dy pm H2 g2 hb hpm dk2 => ?_
  obtain ⟨nv, hA, iA⟩ := dk1.ins
  obtain ⟨vp, hP, iP⟩ := dk1.lst
  have ab : a ≠ b := fun z => by rw [z, hb] at hA; cases hA
  have pp : pl ≠ pm := hpm _ _ hP
  refine asg_first fun l vl H3 g3 nl el il => ?_
  refine asg_first fun m vm H4 g4 nm em im => ?_
  have hP2 := g2 _ _ hP
  obtain ⟨vq, hQ, _⟩ := dk2.lst
  have W0 : WI K 0 sl ns a dx pl l b dy pm m ([], false) [] ([], false) [] H4 := ⟨ScrAt.gr (ScrAt.gr (ScrAt.gr (ScrAt.gr sc g1) g2) g3) g4, ((dk1.gr g2).gr g3).gr g4, (dk2.gr g3).gr g4, LAt.gr ⟨vl, el, il⟩ g4, ⟨vm, em, im⟩, ab, pp,
    (fun z => by rw [z, hP2] at nl; cases nl), (fun z => by rw [z, hQ] at nl; cases nl), (fun z => by rw [z, g3 _ _ hP2] at nm; cases nm), (fun z => by rw [z, g3 _ _ hQ] at nm; cases nm), (fun z => by rw [← z, el] at nm; cases nm), ⟨GS0, fun _ z => nomatch z⟩, ⟨GS0, fun _ z => nomatch z⟩⟩
  obtain ⟨N, hN, e0, e1⟩ : ∃ N : Nat, (if (200 : Int) < (ns.length : Int) then (200 : Int) else (ns.length : Int)) = N ∧ N ≤ 200 ∧ N ≤ ns.length := by
    by_cases c : (200 : Int) < (ns.length : Int)
    · exact ⟨200, by rw [if_pos c] <;> rfl, Nat.le_refl _, by omega⟩
    · exact ⟨ns.length, by rw [if_neg c], by omega, Nat.le_refl _⟩
  refine ⟨_, rfl, .ref sl, ns.length, rfl, .inl ⟨ns.map V.int, W0.scr.sq, by rw [List.length_map]⟩, _, _, rfl, (N : Int), by rw [hN], by omega, by omega, fun k mm σ' H' => k + mm = N ∧ ∃ (x5 x6 x7 : Option V) (now : Shp) (pst : List Shp) (now2 : Shp) (pst2 : List Shp), σ' = sg sl a b l m x5 x6 x7 none ∧ WI K (k * 2000000000) sl ns a dx pl l b dy pm m now pst now2 pst2 H' ∧ pst.length ≤ k ∧ pst2.length ≤ k,
    ⟨N, Nat.zero_add _, none, none, none, _, _, _, _, rfl, by rw [Nat.zero_mul]; exact W0, Nat.le_refl _, Nat.le_refl _⟩, ?_⟩
  rintro k mm σ' H' ⟨hk, x5, x6, x7, now, pst, now2, pst2, rfl, W, h1, h2⟩
  by_cases c : k < N
  · refine .inr ⟨?_, fun σ2 H2 => k + 1 + (mm - 1) = N ∧ ∃ (x5 x6 x7 : Option V) (now : Shp) (pst : List Shp) (now2 : Shp) (pst2 : List Shp), σ2 = sg sl a b l m x5 x6 x7 none ∧ WI K ((k + 1) * 2000000000) sl ns a dx pl l b dy pm m now pst now2 pst2 H2 ∧ pst.length ≤ k + 1 ∧ pst2.length ≤ k + 1, fun σ2 H2 j => ⟨mm - 1, by omega, j⟩, fun x H2 y => ?_⟩
    · show k < ((N : Nat) : Int).toNat
      rw [Int.toNat_natCast]
      exact c
    · obtain ⟨ey, ez⟩ := y
      subst ey ez
      exact turn_law _ k ns[k] x6 x7 none (List.getElem?_eq_getElem (by omega)) (by omega) W (by omega) h1 h2 fun x7' H' now' pst' now2' pst2' W' l1 l2 => ⟨by omega, _, _, _, now', pst', now2', pst2', rfl, by rw [show (k + 1) * 2000000000 = k * 2000000000 + 2000000000 by omega]; exact W', l1, l2⟩
  · refine .inl ⟨?_, ?_⟩
    · show ((N : Nat) : Int).toNat ≤ k
      rw [Int.toNat_natCast]
      omega
    · exact tail_law _ x5 x6 x7 none W (by omega) (by omega) (by omega) q
theorem ok_vF {d : He.DefD} {fd : FuncData} {N ps : List Str} {k : Nat} {sp : Sp} {t : TS} (F : FunD K d.name d.qual d.params d.body d.scope [] [] (He.fAd K d.at_) fd) (sc : FnScope N ps d.scope) (len : ∀ vs H Q E, sp vs H Q E → vs.length = ps.length)
    (hb : ∀ (cdv : Value) (A : Around) (outer : List Env) (s : Shared) (H : Hp) (E : XK), Room k (A.deeper (envOfC d.qual d.scope s.heap.objs.size (He.fAd K d.at_) cdv)) → PSs (cxOf CX0 P w K mg base N d.qual d.scope (He.fAd K d.at_) cdv A outer s H E).nox d.body t)
    (hr : ∀ vs H Q E, sp vs H Q E → t { nx := fun _ H' => Q .non H', rt := Q } (L2.start N vs) H) : FnOk P w K mg base CX0 (k + 1) (He.fAd K d.at_) fd ps sp :=
  F.ok sc len (fun cdv A outer s H vs Q E hR h => ⟨t, PSs.nox (hb cdv A outer s H E hR), hr vs H Q E h⟩)
theorem F_law (T : Tx K mg) {fd : FuncData} (F : FunD K d_law.name d_law.qual d_law.params d_law.body d_law.scope [] [] (He.fAd K d_law.at_) fd) : FnOk P w K mg base CX0 30 (He.fAd K d_law.at_) fd ["script"] (spLaw K) :=
  ok_vF (t := t_law K P w) F sc_law len_law (fun cdv A outer s H E hr => pss_cons (ps_set (i := 1) sc_law.nd rfl (by first | exact Or.inl rfl | exact Or.inr rfl) (pe_makeO0 (d := d_Desk_init) (T.mkr 136 (x := "Desk") rfl) (O_Desk_init T) (hr.mono (by omega)) rfl (T.glo 112 rfl))) (pss_cons (ps_set (i := 2) sc_law.nd rfl (by first | exact Or.inl rfl | exact Or.inr rfl) (pe_makeO0 (d := d_Desk_init) (T.mkr 136 (x := "Desk") rfl) (O_Desk_init T) (hr.mono (by omega)) rfl (T.glo 112 rfl))) (pss_cons (ps_set (i := 3) sc_law.nd rfl (by first | exact Or.inl rfl | exact Or.inr rfl) (pe_lst (pa_cons (pe_tup (pa_cons (pe_tup (pa_nil)) (pa_cons (pe_bl) (pa_nil)))) (pa_nil)))) (pss_cons (ps_set (i := 4) sc_law.nd rfl (by first | exact Or.inl rfl | exact Or.inr rfl) (pe_lst (pa_cons (pe_tup (pa_cons (pe_tup (pa_nil)) (pa_cons (pe_bl) (pa_nil)))) (pa_nil)))) (pss_cons (ps_for PassesOwn.never rfl (pi_range1 rfl (T.free 71 rfl) (pa_cons (pe_callB (r_min rfl) rfl (T.free 72 rfl) boot_min (pa_cons (pe_callB r_len rfl (T.free 63 rfl) boot_len (pa_cons (pv 0) (pa_nil))) (pa_cons (pe_int) (pa_nil)))) (pa_nil))) (pg_name (i := 5) sc_law.nd rfl (by first | exact Or.inl rfl | exact Or.inr rfl)) (pss_cons (ps_set (i := 6) sc_law.nd rfl (by first | exact Or.inl rfl | exact Or.inr rfl) (pe_ix ix_seq (pv 0) (pv 5) (fun _ _ => rfl))) (pss_cons (ps_set (i := 7) sc_law.nd rfl (by first | exact Or.inl rfl | exact Or.inr rfl) (pe_op op_mod (pe_op op_fdivW (pe_own (O_law_deal T) (hr.mono (by first | decide | omega)) rfl (T.glo 45 rfl) pass0 (pa_cons (pv 6) (pa_cons (pe_int) (pa_nil)))) (pe_int)) (pe_int))) (pss_cons (ps_if (PW.pt (pw_and (pt_cmpR op_lt (pv 7) (pe_int) (nomark _)) (pw_and1 (pt_not (pt_val (pe_own (O_law_back T) (hr.mono (by first | decide | omega)) rfl (T.glo 61 rfl) pass0 (pa_cons (pv 1) (pa_cons (pv 3) (pa_nil))))))))) (pss_one (ps_ret (pe_bl))) (pss_nil)) (pss_cons (ps_if (PW.pt (pw_and (pt_cmpR (op_eqD hr.units) (pv 7) (pe_int) (nomark _)) (pw_and1 (PW.pt (pw_or (pt_cmpR (op_neD hr.units) (pe_own (O_law_refused T) (hr.mono (by first | decide | omega)) rfl (T.glo 58 rfl) pass0 (pa_cons (pv 1) (pa_cons (pe_str) (pa_nil)))) (pe_str) (nomark _)) (pw_or1 (pt_cmpR (op_neD hr.units) (pe_methO0 (d := d_Desk_shape) (pv 1) (T.cls 113 (x := "Desk") rfl) (T.meth 175 (x := "Desk") (m := "shape") rfl) (O_Desk_shape T) (hr.mono (by first | decide | omega))) (pe_ix ix_seq (pv 3) (pe_un un_neg (pe_int)) (fun _ _ => rfl)) (nomark _)))))))) (pss_one (ps_ret (pe_bl))) (pss_nil)) (pss_cons (ps_if (PW.pt (pw_and (pt_cmpR (op_eqD hr.units) (pv 7) (pe_int) (nomark _)) (pw_and1 (PW.pt (pw_or (pt_cmpR (o_notIn (units65 hr)) (pe_methO (d := d_Desk_say) (pv 1) (T.cls 113 (x := "Desk") rfl) (T.meth 177 (x := "Desk") (m := "say") rfl) (O_Desk_say T) (hr.mono (by first | decide | omega)) (pa_cons (pe_str) (pa_nil))) (pe_tup (pa_cons (pe_str) (pa_cons (pe_str) (pa_nil)))) rfl) (pw_or1 (pt_cmpR (op_neD hr.units) (pe_methO0 (d := d_Desk_shape) (pv 1) (T.cls 113 (x := "Desk") rfl) (T.meth 175 (x := "Desk") (m := "shape") rfl) (O_Desk_shape T) (hr.mono (by first | decide | omega))) (pe_ix ix_seq (pv 3) (pe_un un_neg (pe_int)) (fun _ _ => rfl)) (nomark _)))))))) (pss_one (ps_ret (pe_bl))) (pss_nil)) (pss_cons (ps_if (PW.pt (pw_and (pt_val (pe_ix ix_seq (pe_ix ix_seq (pv 3) (pe_un un_neg (pe_int)) (fun _ _ => rfl)) (pe_int) (fun _ _ => rfl))) (pw_and1 (PW.pt (pw_or (pt_cmpR (op_neD hr.units) (pe_own (O_law_refused T) (hr.mono (by first | decide | omega)) rfl (T.glo 58 rfl) pass0 (pa_cons (pv 1) (pa_cons (pe_str) (pa_nil)))) (pe_str) (nomark _)) (pw_or1 (pt_cmpR (op_neD hr.units) (pe_methO0 (d := d_Desk_shape) (pv 1) (T.cls 113 (x := "Desk") rfl) (T.meth 175 (x := "Desk") (m := "shape") rfl) (O_Desk_shape T) (hr.mono (by first | decide | omega))) (pe_ix ix_seq (pv 3) (pe_un un_neg (pe_int)) (fun _ _ => rfl)) (nomark _)))))))) (pss_one (ps_ret (pe_bl))) (pss_nil)) (pss_cons (ps_if (PW.pt (pw_and (pt_cmpR op_gt (pv 7) (pe_int) (nomark _)) (pw_and1 (pt_not (pt_val (pe_own (O_law_gone_on T) (hr.mono (by first | decide | omega)) rfl (T.glo 59 rfl) pass0 (pa_cons (pv 1) (pa_cons (pv 3) (pa_cons (pe_own (O_law_deed T) (hr.mono (by first | decide | omega)) rfl (T.glo 55 rfl) pass0 (pa_cons (pv 6) (pa_nil))) (pa_nil)))))))))) (pss_one (ps_ret (pe_bl))) (pss_nil)) (pss_one (ps_if (PW.pt (pw_and (pt_cmpR (op_eqD hr.units) (pe_op op_mod (pv 5) (pe_int)) (pe_int) (nomark _)) (pw_and1 (pt_not (pt_val (pe_own (O_law_gone_on T) (hr.mono (by first | decide | omega)) rfl (T.glo 59 rfl) pass0 (pa_cons (pv 2) (pa_cons (pv 4) (pa_cons (pe_own (O_law_deed T) (hr.mono (by first | decide | omega)) rfl (T.glo 55 rfl) pass0 (pa_cons (pe_op o_add (pv 6) (pe_int)) (pa_nil))) (pa_nil)))))))))) (pss_one (ps_ret (pe_bl))) (pss_nil))))))))))) (pss_cons (ps_if (PW.pt (pw_or (pt_cmpR (op_neD hr.units) (pe_methO0 (d := d_Desk_shape) (pv 1) (T.cls 113 (x := "Desk") rfl) (T.meth 175 (x := "Desk") (m := "shape") rfl) (O_Desk_shape T) (hr.mono (by first | decide | omega))) (pe_ix ix_seq (pv 3) (pe_un un_neg (pe_int)) (fun _ _ => rfl)) (nomark _)) (pw_or1 (pt_cmpR (op_neD hr.units) (pe_methO0 (d := d_Desk_shape) (pv 2) (T.cls 113 (x := "Desk") rfl) (T.meth 175 (x := "Desk") (m := "shape") rfl) (O_Desk_shape T) (hr.mono (by first | decide | omega))) (pe_ix ix_seq (pv 4) (pe_un un_neg (pe_int)) (fun _ _ => rfl)) (nomark _))))) (pss_one (ps_ret (pe_bl))) (pss_nil)) (pss_cons (ps_for PassesOwn.never rfl (pi_range1 rfl (T.free 71 rfl) (pa_cons (pe_callB r_len rfl (T.free 63 rfl) boot_len (pa_cons (pv 3) (pa_nil))) (pa_nil))) (pg_name (i := 8) sc_law.nd rfl (by first | exact Or.inl rfl | exact Or.inr rfl)) (pss_one (ps_if (pt_not (pt_val (pe_own (O_law_back T) (hr.mono (by first | decide | omega)) rfl (T.glo 61 rfl) pass0 (pa_cons (pv 1) (pa_cons (pv 3) (pa_nil)))))) (pss_one (ps_ret (pe_bl))) (pss_nil)))) (pss_one (ps_ret (pe_and (pe_cmpR (op_eqD hr.units) (pe_methO0 (d := d_Desk_shape) (pv 2) (T.cls 113 (x := "Desk") rfl) (T.meth 175 (x := "Desk") (m := "shape") rfl) (O_Desk_shape T) (hr.mono (by first | decide | omega))) (pe_ix ix_seq (pv 4) (pe_un un_neg (pe_int)) (fun _ _ => rfl)) (nomark _)) (pe_one (pe_own (O_law_back T) (hr.mono (by first | decide | omega)) rfl (T.glo 61 rfl) pass0 (pa_cons (pv 2) (pa_cons (pv 4) (pa_nil))))))))))))))) run_law
end K91
/-! ==== FIN2 -/
set_option maxRecDepth 100000
set_option maxHeartbeats 4000000
namespace K91
open PySem PySem.Spec PyProof.Rows L2 SG DL
variable {K : PySem.W.Frag} {mg : Str → Option Value}
theorem tx_of (c : obsM K = valM) (at_ : ∃ h, K.In h ∧ h.Ns mainGlobals mg) : Tx K mg := by
  have e1 : He.obsD [] fn0 K = He.valD fn0 := congrArg (·.1) c
  have e2 : (fa0.all fun f => f.ok K) = true := congrArg (·.2.1) c
  have e3 : (xa0.all fun f => f K) = true := congrArg (·.2.2) c
  exact ⟨fun i d h => He.SaysD.def_ (fa := []) (fn := fn0) e1 i h, fun i f h => List.all_eq_true.1 e2 f (List.mem_of_getElem? h), fun i f h => List.all_eq_true.1 e3 f (List.mem_of_getElem? h), at_⟩
theorem whole {P : Program} (K : PySem.W.Frag) (mg : Str → Option Value) (w : World) (h : Heap) (f : Addr) (X : K.In h) (G : h.Ns mainGlobals mg) (hfa : mg ("law" : Str) = some (.ref f)) (c : obsM K = valM) :
    ∃ (fd : FuncData) (sp : Sp), (∀ (s : Shared) (v : Value), BindsTo s fd ⟨[v], []⟩ [("script", v)]) ∧ (∀ (H : Hp) (a : Addr) (ns : List Int), Only H → SqL K H a (ns.map V.int) → sp [.ref a] H (fun v _ => v = .bl true) fun _ _ _ => False) ∧
      ∀ base : Heap, K.In base → base.Ns mainGlobals mg → FnOk P w K mg base CX0 30 f fd ["script"] sp := by
  have T : Tx K mg := tx_of c ⟨h, X, G⟩
  obtain ⟨fd, FD⟩ := T.fn 90 d_law rfl
  have e := hfa.symm.trans (T.glo 62 (x := "law") rfl)
  cases e
  have b := FunD.bindsA (ps := ["script"]) FD fun _ _ _ _ _ _ us hl => match us, hl with | [_], _ => rfl
  exact ⟨fd, spLaw K, fun s v => b s [v] rfl, fun H a ns ho hS => ⟨a, ns, rfl, scr_of ho hS, fun _ => rfl⟩, fun base _ _ => F_law T FD⟩
end K91
theorem PySem.Challenge.cw_edgemoss_k91_whole_taken_back_holds : PySem.Challenge.rw_edgemoss_k91_whole_taken_back.Holds := by
  exact K91.front fun K mg w h f X G e c => K91.whole K mg w h f X G e c
