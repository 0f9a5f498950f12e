import PyProof.Rows.All
import Wide.All
import OpenK.AllK
import Wide.FinOn
import KE.KStateDown
import HandS.ForMost
import HandS.Defaults
import HandS.Zip0
import PyProof.Draws
import HandS.Zip
import HandS.Walk
import HandS.Wide
import HandS.Style
import HandS.Deep
import HandS.SortRule
import HandS.IsInst
import KE.KUnpackStar
import HandS.DictComp
import HandS.Conv
import HandS.Head0
import HandS.Head1
import HandS.Head2
import HandS.HeadEnd
import HandS.HeadHook1
import HandS.HeadHook2
import HandS.HeadHook3
import HandS.HeadHook4
import PySem.Challenge.RW_restbodies_k23_whole_first_one_time
set_option Elab.async false
set_option linter.all false
set_option maxRecDepth 100000
set_option maxHeartbeats 4000000
/-! the text by places (printed by gen_text.py) -/
namespace K23
open PySem PySem.Spec PyProof.Rows L2
def topS (i : Nat) : Stmt := PySem.Challenge.pw_restbodies_k23_whole_first_one_time.main.body.getD i (.Pass ⟨0, 0, 0, 0⟩)

abbrev S_is_whole : Stmt := topS 7
abbrev N_is_whole : List Str := ["thing"]
abbrev P_is_whole : List Str := ["thing"]
theorem sc_is_whole : FnScope N_is_whole P_is_whole (defScope S_is_whole) := ⟨rfl, rfl, rfl, by decide +kernel, rfl, by decide +kernel, by decide +kernel⟩
abbrev S_divisor : Stmt := topS 8
abbrev N_divisor : List Str := ["one", "other"]
abbrev P_divisor : List Str := ["one", "other"]
theorem sc_divisor : FnScope N_divisor P_divisor (defScope S_divisor) := ⟨rfl, rfl, rfl, by decide +kernel, rfl, by decide +kernel, by decide +kernel⟩
abbrev S_is_share : Stmt := topS 9
abbrev N_is_share : List Str := ["thing"]
abbrev P_is_share : List Str := ["thing"]
theorem sc_is_share : FnScope N_is_share P_is_share (defScope S_is_share) := ⟨rfl, rfl, rfl, by decide +kernel, rfl, by decide +kernel, by decide +kernel⟩
abbrev S_share : Stmt := topS 10
abbrev N_share : List Str := ["top", "bottom", "part"]
abbrev P_share : List Str := ["top", "bottom"]
theorem sc_share : FnScope N_share P_share (defScope S_share) := ⟨rfl, rfl, rfl, by decide +kernel, rfl, by decide +kernel, by decide +kernel⟩
abbrev S_plus : Stmt := topS 11
abbrev N_plus : List Str := ["one", "other"]
abbrev P_plus : List Str := ["one", "other"]
theorem sc_plus : FnScope N_plus P_plus (defScope S_plus) := ⟨rfl, rfl, rfl, by decide +kernel, rfl, by decide +kernel, by decide +kernel⟩
abbrev S_minus : Stmt := topS 12
abbrev N_minus : List Str := ["one", "other"]
abbrev P_minus : List Str := ["one", "other"]
theorem sc_minus : FnScope N_minus P_minus (defScope S_minus) := ⟨rfl, rfl, rfl, by decide +kernel, rfl, by decide +kernel, by decide +kernel⟩
abbrev S_times : Stmt := topS 13
abbrev N_times : List Str := ["one", "other"]
abbrev P_times : List Str := ["one", "other"]
theorem sc_times : FnScope N_times P_times (defScope S_times) := ⟨rfl, rfl, rfl, by decide +kernel, rfl, by decide +kernel, by decide +kernel⟩
abbrev S_over : Stmt := topS 14
abbrev N_over : List Str := ["one", "other"]
abbrev P_over : List Str := ["one", "other"]
theorem sc_over : FnScope N_over P_over (defScope S_over) := ⟨rfl, rfl, rfl, by decide +kernel, rfl, by decide +kernel, by decide +kernel⟩
abbrev S_order : Stmt := topS 15
abbrev N_order : List Str := ["one", "other", "left", "right"]
abbrev P_order : List Str := ["one", "other"]
theorem sc_order : FnScope N_order P_order (defScope S_order) := ⟨rfl, rfl, rfl, by decide +kernel, rfl, by decide +kernel, by decide +kernel⟩
abbrev S_is_way : Stmt := topS 17
abbrev N_is_way : List Str := ["thing", "one"]
abbrev P_is_way : List Str := ["thing"]
theorem sc_is_way : FnScope N_is_way P_is_way (defScope S_is_way) := ⟨rfl, rfl, rfl, by decide +kernel, rfl, by decide +kernel, by decide +kernel⟩
abbrev S_way_of : Stmt := topS 18
abbrev N_way_of : List Str := ["p", "q", "part"]
abbrev P_way_of : List Str := ["p", "q"]
theorem sc_way_of : FnScope N_way_of P_way_of (defScope S_way_of) := ⟨rfl, rfl, rfl, by decide +kernel, rfl, by decide +kernel, by decide +kernel⟩
abbrev S_along : Stmt := topS 19
abbrev N_along : List Str := ["way", "spot", "a", "b", "c", "d"]
abbrev P_along : List Str := ["way", "spot"]
theorem sc_along : FnScope N_along P_along (defScope S_along) := ⟨rfl, rfl, rfl, by decide +kernel, rfl, by decide +kernel, by decide +kernel⟩
abbrev S_spot_minus : Stmt := topS 20
abbrev N_spot_minus : List Str := ["one", "other", "a", "b"]
abbrev P_spot_minus : List Str := ["one", "other"]
theorem sc_spot_minus : FnScope N_spot_minus P_spot_minus (defScope S_spot_minus) := ⟨rfl, rfl, rfl, by decide +kernel, rfl, by decide +kernel, by decide +kernel⟩
abbrev S_sides : Stmt := topS 22
abbrev N_sides : List Str := ["shape", "first", "others", "found", "a", "b", "c", "d"]
abbrev P_sides : List Str := ["shape"]
theorem sc_sides : FnScope N_sides P_sides (defScope S_sides) := ⟨rfl, rfl, rfl, by decide +kernel, rfl, by decide +kernel, by decide +kernel⟩
abbrev S_reach : Stmt := topS 23
abbrev N_reach : List Str := ["shape", "way", "x", "y"]
abbrev P_reach : List Str := ["shape", "way"]
theorem sc_reach : FnScope N_reach P_reach (defScope S_reach) := ⟨rfl, rfl, rfl, by decide +kernel, rfl, by decide +kernel, by decide +kernel⟩
abbrev S_turned_way : Stmt := topS 25
abbrev N_turned_way : List Str := ["way"]
abbrev P_turned_way : List Str := ["way"]
theorem sc_turned_way : FnScope N_turned_way P_turned_way (defScope S_turned_way) := ⟨rfl, rfl, rfl, by decide +kernel, rfl, by decide +kernel, by decide +kernel⟩
abbrev S_pair_ways : Stmt := topS 26
abbrev N_pair_ways : List Str := ["one", "other", "found", "way"]
abbrev P_pair_ways : List Str := ["one", "other"]
theorem sc_pair_ways : FnScope N_pair_ways P_pair_ways (defScope S_pair_ways) := ⟨rfl, rfl, rfl, by decide +kernel, rfl, by decide +kernel, by decide +kernel⟩
abbrev S_rate : Stmt := topS 27
abbrev N_rate : List Str := ["one", "other", "way"]
abbrev P_rate : List Str := ["one", "other", "way"]
theorem sc_rate : FnScope N_rate P_rate (defScope S_rate) := ⟨rfl, rfl, rfl, by decide +kernel, rfl, by decide +kernel, by decide +kernel⟩
abbrev S_gap : Stmt := topS 28
abbrev N_gap : List Str := ["one", "other", "way", "after", "room", "shut"]
abbrev P_gap : List Str := ["one", "other", "way", "after"]
theorem sc_gap : FnScope N_gap P_gap (defScope S_gap) := ⟨rfl, rfl, rfl, by decide +kernel, rfl, by decide +kernel, by decide +kernel⟩
abbrev S_names_of : Stmt := topS 30
abbrev N_names_of : List Str := ["one", "other"]
abbrev P_names_of : List Str := ["one", "other"]
theorem sc_names_of : FnScope N_names_of P_names_of (defScope S_names_of) := ⟨rfl, rfl, rfl, by decide +kernel, rfl, by decide +kernel, by decide +kernel⟩
abbrev S_upright_ways : Stmt := topS 31
abbrev N_upright_ways : List Str := ["one", "other", "a", "b", "c", "d", "p", "q"]
abbrev P_upright_ways : List Str := ["one", "other"]
theorem sc_upright_ways : FnScope N_upright_ways P_upright_ways (defScope S_upright_ways) := ⟨rfl, rfl, rfl, by decide +kernel, rfl, by decide +kernel, by decide +kernel⟩
abbrev S_entered : Stmt := topS 32
abbrev N_entered : List Str := ["rows", "low", "high", "way_in", "way", "room", "speed", "bound"]
abbrev P_entered : List Str := ["rows"]
theorem sc_entered : FnScope N_entered P_entered (defScope S_entered) := ⟨rfl, rfl, rfl, by decide +kernel, rfl, by decide +kernel, by decide +kernel⟩
abbrev S_first : Stmt := topS 33
abbrev N_first : List Str := ["one", "other", "until", "rows", "met", "way", "room", "speed", "lesser", "greater"]
abbrev P_first : List Str := ["one", "other", "until"]
theorem sc_first : FnScope N_first P_first (defScope S_first) := ⟨rfl, rfl, rfl, by decide +kernel, rfl, by decide +kernel, by decide +kernel⟩
abbrev S_meets_now : Stmt := topS 34
abbrev N_meets_now : List Str := ["one", "other", "time", "way", "room"]
abbrev P_meets_now : List Str := ["one", "other", "time"]
theorem sc_meets_now : FnScope N_meets_now P_meets_now (defScope S_meets_now) := ⟨rfl, rfl, rfl, by decide +kernel, rfl, by decide +kernel, by decide +kernel⟩
abbrev S_first_held : Stmt := topS 35
abbrev N_first_held : List Str := ["one", "other", "until", "paper", "word", "time", "way"]
abbrev P_first_held : List Str := ["one", "other", "until", "paper"]
theorem sc_first_held : FnScope N_first_held P_first_held (defScope S_first_held) := ⟨rfl, rfl, rfl, by decide +kernel, rfl, by decide +kernel, by decide +kernel⟩
abbrev S_cellL : Stmt := topS 37
abbrev N_cellL : List Str := ["_law_script", "_law_k"]
abbrev P_cellL : List Str := ["_law_script", "_law_k"]
theorem sc_cellL : FnScope N_cellL P_cellL (defScope S_cellL) := ⟨rfl, rfl, rfl, by decide +kernel, rfl, by decide +kernel, by decide +kernel⟩
abbrev S_deckL : Stmt := topS 38
abbrev N_deckL : List Str := ["_law_script", "_law_cells", "_law_cell_here"]
abbrev P_deckL : List Str := ["_law_script"]
theorem sc_deckL : FnScope N_deckL P_deckL (defScope S_deckL) := ⟨rfl, rfl, rfl, by decide +kernel, rfl, by decide +kernel, by decide +kernel⟩
abbrev S_takeL : Stmt := topS 39
abbrev N_takeL : List Str := ["_law_deck_here", "_law_many", "_law_number_here", "_law_cell_here"]
abbrev P_takeL : List Str := ["_law_deck_here", "_law_many"]
theorem sc_takeL : FnScope N_takeL P_takeL (defScope S_takeL) := ⟨rfl, rfl, rfl, by decide +kernel, rfl, by decide +kernel, by decide +kernel⟩
abbrev S_longL : Stmt := topS 40
abbrev N_longL : List Str := ["_law_deck_here", "_law_many", "_law_found", "_law_turn"]
abbrev P_longL : List Str := ["_law_deck_here", "_law_many"]
theorem sc_longL : FnScope N_longL P_longL (defScope S_longL) := ⟨rfl, rfl, rfl, by decide +kernel, rfl, by decide +kernel, by decide +kernel⟩
abbrev S_gcdL : Stmt := topS 41
abbrev N_gcdL : List Str := ["_law_one", "_law_other", "_law_rest"]
abbrev P_gcdL : List Str := ["_law_one", "_law_other"]
theorem sc_gcdL : FnScope N_gcdL P_gcdL (defScope S_gcdL) := ⟨rfl, rfl, rfl, by decide +kernel, rfl, by decide +kernel, by decide +kernel⟩
abbrev S_shareL : Stmt := topS 42
abbrev N_shareL : List Str := ["_law_top", "_law_bottom", "_law_part"]
abbrev P_shareL : List Str := ["_law_top", "_law_bottom"]
theorem sc_shareL : FnScope N_shareL P_shareL (defScope S_shareL) := ⟨rfl, rfl, rfl, by decide +kernel, rfl, by decide +kernel, by decide +kernel⟩
abbrev S_plusL : Stmt := topS 43
abbrev N_plusL : List Str := ["_law_one", "_law_other"]
abbrev P_plusL : List Str := ["_law_one", "_law_other"]
theorem sc_plusL : FnScope N_plusL P_plusL (defScope S_plusL) := ⟨rfl, rfl, rfl, by decide +kernel, rfl, by decide +kernel, by decide +kernel⟩
abbrev S_timesL : Stmt := topS 44
abbrev N_timesL : List Str := ["_law_one", "_law_other"]
abbrev P_timesL : List Str := ["_law_one", "_law_other"]
theorem sc_timesL : FnScope N_timesL P_timesL (defScope S_timesL) := ⟨rfl, rfl, rfl, by decide +kernel, rfl, by decide +kernel, by decide +kernel⟩
abbrev S_spotL : Stmt := topS 45
abbrev N_spotL : List Str := ["_law_spot_here"]
abbrev P_spotL : List Str := ["_law_spot_here"]
theorem sc_spotL : FnScope N_spotL P_spotL (defScope S_spotL) := ⟨rfl, rfl, rfl, by decide +kernel, rfl, by decide +kernel, by decide +kernel⟩
abbrev S_spot_plusL : Stmt := topS 46
abbrev N_spot_plusL : List Str := ["_law_one", "_law_other"]
abbrev P_spot_plusL : List Str := ["_law_one", "_law_other"]
theorem sc_spot_plusL : FnScope N_spot_plusL P_spot_plusL (defScope S_spot_plusL) := ⟨rfl, rfl, rfl, by decide +kernel, rfl, by decide +kernel, by decide +kernel⟩
abbrev S_spot_timesL : Stmt := topS 47
abbrev N_spot_timesL : List Str := ["_law_spot_here", "_law_size"]
abbrev P_spot_timesL : List Str := ["_law_spot_here", "_law_size"]
theorem sc_spot_timesL : FnScope N_spot_timesL P_spot_timesL (defScope S_spot_timesL) := ⟨rfl, rfl, rfl, by decide +kernel, rfl, by decide +kernel, by decide +kernel⟩
abbrev S_leftL : Stmt := topS 48
abbrev N_leftL : List Str := ["_law_a", "_law_b", "_law_c"]
abbrev P_leftL : List Str := ["_law_a", "_law_b", "_law_c"]
theorem sc_leftL : FnScope N_leftL P_leftL (defScope S_leftL) := ⟨rfl, rfl, rfl, by decide +kernel, rfl, by decide +kernel, by decide +kernel⟩
abbrev S_halfL : Stmt := topS 49
abbrev N_halfL : List Str := ["_law_points", "_law_found", "_law_point"]
abbrev P_halfL : List Str := ["_law_points"]
theorem sc_halfL : FnScope N_halfL P_halfL (defScope S_halfL) := ⟨rfl, rfl, rfl, by decide +kernel, rfl, by decide +kernel, by decide +kernel⟩
abbrev S_numberL : Stmt := topS 50
abbrev N_numberL : List Str := ["_law_deck_here", "_law_span"]
abbrev P_numberL : List Str := ["_law_deck_here", "_law_span"]
theorem sc_numberL : FnScope N_numberL P_numberL (defScope S_numberL) := ⟨rfl, rfl, rfl, by decide +kernel, rfl, by decide +kernel, by decide +kernel⟩
abbrev S_eightL : Stmt := topS 51
abbrev N_eightL : List Str := ["_law_deck_here", "_law_most", "_law_wide", "_law_high", "_law_cuts", "_law_found", "_law_turn"]
abbrev P_eightL : List Str := ["_law_deck_here", "_law_most"]
theorem sc_eightL : FnScope N_eightL P_eightL (defScope S_eightL) := ⟨rfl, rfl, rfl, by decide +kernel, rfl, by decide +kernel, by decide +kernel⟩
abbrev S_shapeL : Stmt := topS 52
abbrev N_shapeL : List Str := ["_law_deck_here", "_law_span", "_law_kind", "_law_many", "_law_rows", "_law_found", "_law_x", "_law_y", "_law_wide", "_law_high", "_law_turn"]
abbrev P_shapeL : List Str := ["_law_deck_here", "_law_span"]
theorem sc_shapeL : FnScope N_shapeL P_shapeL (defScope S_shapeL) := ⟨rfl, rfl, rfl, by decide +kernel, rfl, by decide +kernel, by decide +kernel⟩
abbrev S_waysL : Stmt := topS 53
abbrev N_waysL : List Str := ["_law_shape_here", "_law_found", "_law_k", "_law_corner", "_law_behind"]
abbrev P_waysL : List Str := ["_law_shape_here"]
theorem sc_waysL : FnScope N_waysL P_waysL (defScope S_waysL) := ⟨rfl, rfl, rfl, by decide +kernel, rfl, by decide +kernel, by decide +kernel⟩
abbrev S_wayL : Stmt := topS 54
abbrev N_wayL : List Str := ["_law_p", "_law_q", "_law_part"]
abbrev P_wayL : List Str := ["_law_p", "_law_q"]
theorem sc_wayL : FnScope N_wayL P_wayL (defScope S_wayL) := ⟨rfl, rfl, rfl, by decide +kernel, rfl, by decide +kernel, by decide +kernel⟩
abbrev S_pair_waysL : Stmt := topS 55
abbrev N_pair_waysL : List Str := ["_law_one", "_law_other", "_law_found", "_law_way_here"]
abbrev P_pair_waysL : List Str := ["_law_one", "_law_other"]
theorem sc_pair_waysL : FnScope N_pair_waysL P_pair_waysL (defScope S_pair_waysL) := ⟨rfl, rfl, rfl, by decide +kernel, rfl, by decide +kernel, by decide +kernel⟩
abbrev S_reachL : Stmt := topS 56
abbrev N_reachL : List Str := ["_law_shape_here", "_law_way_here", "_law_corner"]
abbrev P_reachL : List Str := ["_law_shape_here", "_law_way_here"]
theorem sc_reachL : FnScope N_reachL P_reachL (defScope S_reachL) := ⟨rfl, rfl, rfl, by decide +kernel, rfl, by decide +kernel, by decide +kernel⟩
abbrev S_betweenL : Stmt := topS 57
abbrev N_betweenL : List Str := ["_law_one", "_law_other", "_law_after", "_law_far", "_law_fast", "_law_gone"]
abbrev P_betweenL : List Str := ["_law_one", "_law_other", "_law_after"]
theorem sc_betweenL : FnScope N_betweenL P_betweenL (defScope S_betweenL) := ⟨rfl, rfl, rfl, by decide +kernel, rfl, by decide +kernel, by decide +kernel⟩
abbrev S_roomL : Stmt := topS 58
abbrev N_roomL : List Str := ["_law_one", "_law_other", "_law_way_here", "_law_gone", "_law_wide"]
abbrev P_roomL : List Str := ["_law_one", "_law_other", "_law_way_here", "_law_gone"]
theorem sc_roomL : FnScope N_roomL P_roomL (defScope S_roomL) := ⟨rfl, rfl, rfl, by decide +kernel, rfl, by decide +kernel, by decide +kernel⟩
abbrev S_roomsL : Stmt := topS 59
abbrev N_roomsL : List Str := ["_law_one", "_law_other", "_law_after", "_law_gone", "_law_way_here"]
abbrev P_roomsL : List Str := ["_law_one", "_law_other", "_law_after"]
theorem sc_roomsL : FnScope N_roomsL P_roomsL (defScope S_roomsL) := ⟨rfl, rfl, rfl, by decide +kernel, rfl, by decide +kernel, by decide +kernel⟩
abbrev S_overL : Stmt := topS 60
abbrev N_overL : List Str := ["_law_one", "_law_other", "_law_after"]
abbrev P_overL : List Str := ["_law_one", "_law_other", "_law_after"]
theorem sc_overL : FnScope N_overL P_overL (defScope S_overL) := ⟨rfl, rfl, rfl, by decide +kernel, rfl, by decide +kernel, by decide +kernel⟩
abbrev S_namesL : Stmt := topS 61
abbrev N_namesL : List Str := ["_law_deck_here", "_law_letters", "_law_stem", "_law_at", "_law_first_letter", "_law_second_letter", "_law_turn"]
abbrev P_namesL : List Str := ["_law_deck_here"]
theorem sc_namesL : FnScope N_namesL P_namesL (defScope S_namesL) := ⟨rfl, rfl, rfl, by decide +kernel, rfl, by decide +kernel, by decide +kernel⟩
abbrev S_drawnL : Stmt := topS 62
abbrev N_drawnL : List Str := ["_law_deck_here", "_law_size", "_law_many", "_law_sign"]
abbrev P_drawnL : List Str := ["_law_deck_here", "_law_size"]
theorem sc_drawnL : FnScope N_drawnL P_drawnL (defScope S_drawnL) := ⟨rfl, rfl, rfl, by decide +kernel, rfl, by decide +kernel, by decide +kernel⟩
abbrev S_rowL : Stmt := topS 63
abbrev N_rowL : List Str := ["_law_deck_here", "_law_name", "_law_span", "_law_size", "_law_is_free", "_law_kind", "_law_shape_here", "_law_place", "_law_mass", "_law_p", "_law_q", "_law_rail", "_law_speed"]
abbrev P_rowL : List Str := ["_law_deck_here", "_law_name", "_law_span", "_law_size", "_law_is_free"]
theorem sc_rowL : FnScope N_rowL P_rowL (defScope S_rowL) := ⟨rfl, rfl, rfl, by decide +kernel, rfl, by decide +kernel, by decide +kernel⟩
abbrev S_pairL : Stmt := topS 64
abbrev N_pairL : List Str := ["_law_deck_here", "_law_near", "_law_aim", "_law_size", "_law_span", "_law_names_here", "_law_one", "_law_other", "_law_when", "_law_at", "_law_corner", "_law_behind", "_law_side", "_law_tip", "_law_part", "_law_spot_here", "_law_place", "_law_speed", "_law_some", "_law_to"]
abbrev P_pairL : List Str := ["_law_deck_here"]
theorem sc_pairL : FnScope N_pairL P_pairL (defScope S_pairL) := ⟨rfl, rfl, rfl, by decide +kernel, rfl, by decide +kernel, by decide +kernel⟩
abbrev S_untilL : Stmt := topS 65
abbrev N_untilL : List Str := ["_law_deck_here", "_law_when", "_law_which", "_law_little"]
abbrev P_untilL : List Str := ["_law_deck_here", "_law_when"]
theorem sc_untilL : FnScope N_untilL P_untilL (defScope S_untilL) := ⟨rfl, rfl, rfl, by decide +kernel, rfl, by decide +kernel, by decide +kernel⟩
abbrev S_crossingsL : Stmt := topS 66
abbrev N_crossingsL : List Str := ["_law_one", "_law_other", "_law_found", "_law_gone", "_law_later", "_law_way_here", "_law_now", "_law_then", "_law_grown"]
abbrev P_crossingsL : List Str := ["_law_one", "_law_other"]
theorem sc_crossingsL : FnScope N_crossingsL P_crossingsL (defScope S_crossingsL) := ⟨rfl, rfl, rfl, by decide +kernel, rfl, by decide +kernel, by decide +kernel⟩
abbrev S_uprightL : Stmt := topS 67
abbrev N_uprightL : List Str := ["_law_one", "_law_other", "_law_fast", "_law_p", "_law_q"]
abbrev P_uprightL : List Str := ["_law_one", "_law_other"]
theorem sc_uprightL : FnScope N_uprightL P_uprightL (defScope S_uprightL) := ⟨rfl, rfl, rfl, by decide +kernel, rfl, by decide +kernel, by decide +kernel⟩
abbrev S_turnedL : Stmt := topS 68
abbrev N_turnedL : List Str := ["_law_paper"]
abbrev P_turnedL : List Str := ["_law_paper"]
theorem sc_turnedL : FnScope N_turnedL P_turnedL (defScope S_turnedL) := ⟨rfl, rfl, rfl, by decide +kernel, rfl, by decide +kernel, by decide +kernel⟩
abbrev S_papersL : Stmt := topS 69
abbrev N_papersL : List Str := ["_law_deck_here", "_law_one", "_law_other", "_law_ways_here", "_law_p", "_law_q", "_law_found", "_law_turn", "_law_time", "_law_way_here", "_law_grows", "_law_later"]
abbrev P_papersL : List Str := ["_law_deck_here", "_law_one", "_law_other"]
theorem sc_papersL : FnScope N_papersL P_papersL (defScope S_papersL) := ⟨rfl, rfl, rfl, by decide +kernel, rfl, by decide +kernel, by decide +kernel⟩
abbrev S_told_is_rightL : Stmt := topS 70
abbrev N_told_is_rightL : List Str := ["_law_one", "_law_other", "_law_until_here", "_law_times_held", "_law_told", "_law_time"]
abbrev P_told_is_rightL : List Str := ["_law_one", "_law_other", "_law_until_here", "_law_times_held"]
theorem sc_told_is_rightL : FnScope N_told_is_rightL P_told_is_rightL (defScope S_told_is_rightL) := ⟨rfl, rfl, rfl, by decide +kernel, rfl, by decide +kernel, by decide +kernel⟩
abbrev S_law : Stmt := topS 71
abbrev N_law : List Str := ["_law_script", "_law_deck_here", "_law_one", "_law_other", "_law_when", "_law_until_here", "_law_held", "_law_times_held", "_law_later", "_law_paper", "_law_time"]
abbrev P_law : List Str := ["_law_script"]
theorem sc_law : FnScope N_law P_law (defScope S_law) := ⟨rfl, rfl, rfl, by decide +kernel, rfl, by decide +kernel, by decide +kernel⟩
end K23
/-! zip(a, b, strict=True) over any two iterators, at the library's level -/
namespace K23
open PySem
open PySem.Sem (wp)

theorem draws_tuple {prog : Program} {w : World} {A : Around} (hh : A.handled = none) (it l : Addr) (hne : l ≠ it) (items : Array Value) :
    Draws prog w A it [it, l] items.size (fun i v => items[i]? = some v) (fun i h => h.IsTupleIter it l i ∧ h.IsTuple l items) where
  live := fun _ _ st => let ⟨o, ho, _⟩ := st.1; ⟨o, ho⟩
  frame := fun _ _ _ st hk => ⟨st.1.at fun o e => hk it (by simp) o e, st.2.at fun o e => hk l (by simp) o e⟩
  item := fun i s Q E hi st hQ => by
    refine RZ.nextOf_tuple_item st.1 st.2 (x := items[i]) (by simp [hi]) fun h' hit' hs' => ?_
    exact hQ _ h' s.toks (by simp [hi]) ⟨hit', st.2.extBut hs'.extBut hne⟩ hs'
  done := fun s Q E st hE => RZ.nextOf_tuple_end hh st.1 st.2 (by simp) hE

abbrev IsZipS (h : Heap) (z TI TO : Addr) (f0 : Value) : Prop :=
  h.get? z = some { cls := .type "zip", dict := none, data := .fields #[f0, .bool false, .bool true, .ref TI, .ref TO], slots := #[] }

section
variable {prog : Program} {w : World} {A : Around} {E : Value → Shared → Prop} {s : Shared}
theorem nextOrEnd_item {it : Addr} {fp : List Addr} {n i : Nat} {P : Nat → Value → Prop} {St : Nat → Heap → Prop} {Q : Option Value → Shared → Prop} (D : Draws prog w A it fp n P St) (hi : i < n) (st : St i s.heap)
    (hQ : ∀ x h' tk, P i x → St (i + 1) h' → Heap.SameBut it s.heap h' → Q (some x) { s with heap := h', toks := tk }) : wpAny (model prog w) A (Builtin.SmallTypes.nextOrEnd (.ref it)) Q E s := by
  unfold Builtin.SmallTypes.nextOrEnd
  exact wpAny_bind (wpAny_attempt (D.item i s _ _ hi st fun x h' tk p st' sb => wpAny_pure (hQ x h' tk p st' sb)))
theorem nextOrEnd_done {it : Addr} {fp : List Addr} {n : Nat} {P : Nat → Value → Prop} {St : Nat → Heap → Prop} {Q : Option Value → Shared → Prop} (D : Draws prog w A it fp n P St) (st : St n s.heap)
    (hQ : ∀ h', Heap.ExtBut it s.heap h' → Q none { s with heap := h' }) : wpAny (model prog w) A (Builtin.SmallTypes.nextOrEnd (.ref it)) Q E s := by
  unfold Builtin.SmallTypes.nextOrEnd
  refine wpAny_bind (wpAny_attempt (D.done s _ _ st fun h' e he hx => ?_))
  obtain ⟨o, ho, hc⟩ := hx
  exact wpAny_bind (wpAny_isInstance (T := "StopIteration") (b := true) ⟨o, ho, hc⟩ isSubtype_stop (wpAny_pure (hQ h' he)))

/-- all that is apart -/
structure ZApart (z TI TO i1 i2 : Addr) (f1 f2 : List Addr) : Prop where
  TIz : TI ≠ z
  TOz : TO ≠ z
  i1z : i1 ≠ z
  i2z : i2 ≠ z
  TITO : TI ≠ TO
  TIi1 : TI ≠ i1
  TIi2 : TI ≠ i2
  TOi1 : TO ≠ i1
  TOi2 : TO ≠ i2
  i12 : i1 ≠ i2
  z1 : z ∉ f1
  z2 : z ∉ f2
  TO1 : TO ∉ f1
  TO2 : TO ∉ f2
  i21 : i2 ∉ f1
  i1n : i1 ∉ f2

theorem zipS_next_item {z TI TO i1 i2 : Addr} {f1 f2 : List Addr} {n1 n2 k : Nat} {P1 P2 : Nat → Value → Prop} {S1 S2 : Nat → Heap → Prop} {a b : Value} {Q : Value → Shared → Prop} (D : ZApart z TI TO i1 i2 f1 f2)
    (D1 : Draws prog w A i1 f1 n1 P1 S1) (D2 : Draws prog w A i2 f2 n2 P2 S2)
    (hz : IsZipS s.heap z TI TO .none) (hTI : IsPair s.heap TI (.ref i1) (.ref i2)) (hTO : IsPair s.heap TO a b) (h1 : S1 k s.heap) (h2 : S2 k s.heap) (l1 : k < n1) (l2 : k < n2)
    (hQ : ∀ x y h' tk, P1 k x → P2 k y → IsZipS h' z TI TO (rawInt s.heap.objs.size) → IsPair h' TO x y → S1 (k + 1) h' → S2 (k + 1) h' → IsPair h' s.heap.objs.size x y → h'.objs.size = s.heap.objs.size + 1 →
      (∀ c o, c ≠ z → c ≠ TO → c ≠ i1 → c ≠ i2 → s.heap.get? c = some o → h'.get? c = some o) → Q (.ref s.heap.objs.size) { s with heap := h', toks := tk }) :
    wpAny (model prog w) A (Builtin.«zip.__next__» ⟨[.ref z], []⟩) (fun fin s' => ∃ v, fin = .done (.ret v) ∧ Q v s') E s := by
  have fr1 : ∀ {j c} {h h' : Heap}, S1 j h → Heap.ExtBut c h h' → c ∉ f1 → S1 j h' := fun st e hc => D1.frame _ _ _ st fun b hb o q => e b o (fun x => hc (x ▸ hb)) q
  have fr2 : ∀ {j c} {h h' : Heap}, S2 j h → Heap.ExtBut c h h' → c ∉ f2 → S2 j h' := fun st e hc => D2.frame _ _ _ st fun b hb o q => e b o (fun x => hc (x ▸ hb)) q
  show wpAny _ _ (field (.ref z) 2 >>= _) _ _ _
  refine wpAny_bind (wpAny_field hz rfl (x := .bool true) rfl ?_)
  show wpAny _ _ (field (.ref z) 3 >>= _) _ _ _
  refine wpAny_bind (wpAny_field hz rfl (x := .ref TI) rfl ?_)
  refine wpAny_bind (wpAny_seqItems hTI rfl ?_)
  show wpAny _ _ (Builtin.SmallTypes.ownedTupleIsFree (.ref z) >>= _) _ _ _
  refine wpAny_bind ?_
  unfold Builtin.SmallTypes.ownedTupleIsFree
  refine wpAny_bind (wpAny_field hz rfl (x := .none) rfl (wpAny_pure ?_))
  simp only [if_true]
  refine wpAny_bind (wpAny_rule ?_)
  refine wpAny_bind (wpAny_field hz rfl (x := .ref TO) rfl ?_)
  refine wpAny_bind (wpAny_setField_rec hz (by simp) fun h₁ hz₁ hs₁ => ?_)
  replace hz₁ : IsZipS h₁ z TI TO .ellipsis := hz₁
  refine wpAny_bind ?_
  simp only [List.zipIdx_cons, List.zipIdx_nil, List.forIn_cons, List.forIn_nil]

  refine wpAny_bind (wpAny_bind (wpAny_onRaise ?_))
  show wpAny _ _ (Builtin.SmallTypes.nextOrEnd (.ref i1)) _ _ _
  refine nextOrEnd_item (s := { s with heap := h₁ }) D1 l1 (fr1 h1 hs₁.extBut D.z1) fun x h₂ tk px h1₂ hs₂ => ?_
  have hTO₂ : IsPair h₂ TO a b := hs₂.extBut _ _ D.TOi1 (hs₁.extBut _ _ D.TOz hTO)
  refine wpAny_bind (wpAny_seqItems hTO₂ rfl ?_)
  refine wpAny_bind (wpAny_updateSeq_pair hTO₂ fun h₃ hTO₃ hs₃ => ?_)
  replace hTO₃ : IsPair h₃ TO x b := hTO₃
  refine wpAny_bind (wpAny_letGo (wpAny_pure ?_))

  refine wpAny_bind (wpAny_bind (wpAny_onRaise ?_))
  show wpAny _ _ (Builtin.SmallTypes.nextOrEnd (.ref i2)) _ _ _
  refine nextOrEnd_item (s := { s with heap := h₃, toks := tk }) D2 l2 (fr2 (fr2 (fr2 h2 hs₁.extBut D.z2) hs₂.extBut D.i1n) hs₃.extBut D.TO2) fun y h₄ tk2 py h2₄ hs₄ => ?_
  have hTO₄ : IsPair h₄ TO x b := hs₄.extBut _ _ D.TOi2 hTO₃
  refine wpAny_bind (wpAny_seqItems hTO₄ rfl ?_)
  refine wpAny_bind (wpAny_updateSeq_pair hTO₄ fun h₅ hTO₅ hs₅ => ?_)
  replace hTO₅ : IsPair h₅ TO x y := hTO₅
  refine wpAny_bind (wpAny_letGo (wpAny_pure (wpAny_pure ?_)))

  refine wpAny_bind (wpAny_seqItems hTO₅ rfl ?_)
  refine wpAny_bind (wpAny_newTuple ?_)
  have hsz : h₅.objs.size = s.heap.objs.size := by rw [hs₅.1, hs₄.1, hs₃.1, hs₂.1, hs₁.1]
  have hz₅ : IsZipS h₅ z TI TO .ellipsis := hs₅.extBut _ _ D.TOz.symm (hs₄.extBut _ _ D.i2z.symm (hs₃.extBut _ _ D.TOz.symm (hs₂.extBut _ _ D.i1z.symm hz₁)))
  have hk₅ : ∀ c o, c ≠ z → c ≠ TO → c ≠ i1 → c ≠ i2 → s.heap.get? c = some o → h₅.get? c = some o := fun c o c1 c2 c3 c4 e =>
    hs₅.extBut _ _ c2 (hs₄.extBut _ _ c4 (hs₃.extBut _ _ c2 (hs₂.extBut _ _ c3 (hs₁.extBut _ _ c1 e))))
  have h1₅ : S1 (k + 1) h₅ := fr1 (fr1 (fr1 h1₂ hs₃.extBut D.TO1) hs₄.extBut D.i21) hs₅.extBut D.TO1
  have h2₅ : S2 (k + 1) h₅ := fr2 h2₄ hs₅.extBut D.TO2
  have hzlt : z < h₅.objs.size := Heap.lt_size hz₅
  show wpAny _ _ (Builtin.SmallTypes.ownedTupleHandOut (.ref z) (.ref h₅.objs.size) >>= _) _ _ _
  refine wpAny_bind ?_
  unfold Builtin.SmallTypes.ownedTupleHandOut
  have hz₆ : IsZipS (h₅.push { cls := .type "tuple", data := .seq #[x, y] }) z TI TO .ellipsis := Heap.get?_push_of_some _ hz₅
  refine wpAny_bind (wpAny_setField_rec hz₆ (by simp) fun h₇ hz₇ hs₇ => ?_)
  replace hz₇ : IsZipS h₇ z TI TO (rawInt h₅.objs.size) := hz₇
  refine wpAny_setField_rec hz₇ (by simp) fun h₈ hz₈ hs₈ => ?_
  replace hz₈ : IsZipS h₈ z TI TO (rawInt h₅.objs.size) := hz₈
  have up : ∀ c o, c ≠ z → h₅.get? c = some o → h₈.get? c = some o := fun c o c1 e => hs₈.extBut _ _ c1 (hs₇.extBut _ _ c1 (Heap.get?_push_of_some _ e))
  have hT₈ : IsPair h₈ h₅.objs.size x y := hs₈.extBut _ _ (Nat.ne_of_gt hzlt) (hs₇.extBut _ _ (Nat.ne_of_gt hzlt) (Heap.get?_push_size _ rfl))
  have hz8 : h₈.objs.size = h₅.objs.size + 1 := by rw [hs₈.1, hs₇.1, Heap.size_push]
  rw [hsz] at hz₈ hT₈ hz8
  refine wpAny_pure ⟨_, rfl, ?_⟩
  show Q (.ref h₅.objs.size) _
  rw [hsz]
  exact hQ x y h₈ tk2 px py hz₈ (up _ _ D.TOz hTO₅) (D1.frame _ _ _ h1₅ fun b hb o q => up b o (fun x => D.z1 (x ▸ hb)) q) (D2.frame _ _ _ h2₅ fun b hb o q => up b o (fun x => D.z2 (x ▸ hb)) q) hT₈ hz8 fun c o c1 c2 c3 c4 e => up c o c1 (hk₅ c o c1 c2 c3 c4 e)

theorem zipS_next_end {z TI TO i1 i2 : Addr} {f1 f2 : List Addr} {n : Nat} {P1 P2 : Nat → Value → Prop} {S1 S2 : Nat → Heap → Prop} {a b : Value} {Q : Fin → Shared → Prop} (hh : A.handled = none) (D : ZApart z TI TO i1 i2 f1 f2)
    (D1 : Draws prog w A i1 f1 n P1 S1) (D2 : Draws prog w A i2 f2 n P2 S2)
    (hz : IsZipS s.heap z TI TO .none) (hTI : IsPair s.heap TI (.ref i1) (.ref i2)) (hTO : IsPair s.heap TO a b) (h1 : S1 n s.heap) (h2 : S2 n s.heap)
    (hE : ∀ h' e, (∀ c o, c ≠ z → c ≠ TO → c ≠ i1 → c ≠ i2 → s.heap.get? c = some o → h'.get? c = some o) → (∃ o, h'.get? e = some o ∧ o.cls = .type "StopIteration") → E (.ref e) { s with heap := h' }) :
    wpAny (model prog w) A (Builtin.«zip.__next__» ⟨[.ref z], []⟩) Q E s := by
  have fr2 : ∀ {j c} {h h' : Heap}, S2 j h → Heap.ExtBut c h h' → c ∉ f2 → S2 j h' := fun st e hc => D2.frame _ _ _ st fun b hb o q => e b o (fun x => hc (x ▸ hb)) q
  show wpAny _ _ (field (.ref z) 2 >>= _) _ _ _
  refine wpAny_bind (wpAny_field hz rfl (x := .bool true) rfl ?_)
  show wpAny _ _ (field (.ref z) 3 >>= _) _ _ _
  refine wpAny_bind (wpAny_field hz rfl (x := .ref TI) rfl ?_)
  refine wpAny_bind (wpAny_seqItems hTI rfl ?_)
  show wpAny _ _ (Builtin.SmallTypes.ownedTupleIsFree (.ref z) >>= _) _ _ _
  refine wpAny_bind ?_
  unfold Builtin.SmallTypes.ownedTupleIsFree
  refine wpAny_bind (wpAny_field hz rfl (x := .none) rfl (wpAny_pure ?_))
  simp only [if_true]
  refine wpAny_bind (wpAny_rule ?_)
  refine wpAny_bind (wpAny_field hz rfl (x := .ref TO) rfl ?_)
  refine wpAny_bind (wpAny_setField_rec hz (by simp) fun h₁ hz₁ hs₁ => ?_)
  replace hz₁ : IsZipS h₁ z TI TO .ellipsis := hz₁
  refine wpAny_bind ?_
  simp only [List.zipIdx_cons, List.zipIdx_nil, List.forIn_cons, List.forIn_nil]
  refine wpAny_bind (wpAny_bind (wpAny_onRaise ?_))
  show wpAny _ _ (Builtin.SmallTypes.nextOrEnd (.ref i1)) _ _ _
  refine nextOrEnd_done (s := { s with heap := h₁ }) D1 (D1.frame _ _ _ h1 fun b hb o q => hs₁.extBut b o (fun x => D.z1 (x ▸ hb)) q) fun h₂ hs₂ => ?_
  have hz₂ : IsZipS h₂ z TI TO .ellipsis := hs₂ _ _ D.i1z.symm hz₁
  refine wpAny_bind (wpAny_setField_rec hz₂ (by simp) fun h₃ _ hs₃ => ?_)
  refine wpAny_bind (wpAny_bind ?_)
  simp only [List.drop_succ_cons, List.drop_zero, List.zipIdx_cons, List.zipIdx_nil, List.forIn_cons, List.forIn_nil]
  refine wpAny_bind (wpAny_bind (nextOrEnd_done (s := { s with heap := h₃ }) D2 (fr2 (fr2 (fr2 h2 hs₁.extBut D.z2) hs₂ D.i1n) hs₃.extBut D.z2) fun h₄ hs₄ => ?_))
  simp only [Option.isSome_none, Bool.false_eq_true, if_false]
  refine wpAny_pure (wpAny_pure (wpAny_bind (wpAny_rule ?_)))
  show wpAny _ _ (newExc (.type "StopIteration") [] >>= _) _ _ _
  refine wpAny_bind ?_
  simp only [newExc, newTuple]
  refine wpAny_bind (wpAny_newObj_type ?_ (by size_fits))
  refine wpAny_bind (m := firstArgMember _ _) (wpAny_of_eq (a := Value.none) (by first | rfl | (simp only [firstArgMember]; rfl)) ?_)
  refine wpAny_newObj_type ?_ (by size_fits)
  simp only [raiseNew]
  refine wpAny_bind (wpAny_handled ?_)
  first | rw [show A.in1.handled = none from hh] | rw [hh]
  refine wpAny_bind (wpAny_pure (wpAny_throw ?_))
  refine hE _ _ (fun c o c1 c2 c3 c4 e => Heap.get?_push_of_some _ (Heap.get?_push_of_some _ (hs₄ _ _ c4 (hs₃.extBut _ _ c1 (hs₂ _ _ c3 (hs₁.extBut _ _ c1 e)))))) ⟨_, Heap.get?_push_size _ rfl, rfl⟩

theorem pyNext_zipS_item {z TI TO i1 i2 : Addr} {f1 f2 : List Addr} {n1 n2 k : Nat} {P1 P2 : Nat → Value → Prop} {S1 S2 : Nat → Heap → Prop} {a b : Value} {Q : Option Value → Shared → Prop} (D : ZApart z TI TO i1 i2 f1 f2)
    (D1 : Draws prog w A.in1 i1 f1 n1 P1 S1) (D2 : Draws prog w A.in1 i2 f2 n2 P2 S2)
    (hz : IsZipS s.heap z TI TO .none) (hTI : IsPair s.heap TI (.ref i1) (.ref i2)) (hTO : IsPair s.heap TO a b) (h1 : S1 k s.heap) (h2 : S2 k s.heap) (l1 : k < n1) (l2 : k < n2)
    (hQ : ∀ x y h' tk, P1 k x → P2 k y → IsZipS h' z TI TO (rawInt s.heap.objs.size) → IsPair h' TO x y → S1 (k + 1) h' → S2 (k + 1) h' → IsPair h' s.heap.objs.size x y → h'.objs.size = s.heap.objs.size + 1 →
      (∀ c o, c ≠ z → c ≠ TO → c ≠ i1 → c ≠ i2 → s.heap.get? c = some o → h'.get? c = some o) → Q (some (.ref s.heap.objs.size)) { s with heap := h', toks := tk }) :
    wpAny (model prog w) A (pyNext (.ref z)) Q E s := by
  have hT : s.TypeIs (.ref z) "zip" := ⟨_, hz, rfl⟩
  unfold pyNext
  exact wpAny_bind (wpAny_attempt (wpAny_callSpecial?_slot (name := Str.ofString "__next__") hT F.slot_zip_next
    (wpAny_call_entry F.slot_zip_next hT F.entry_zip_next
      (zipS_next_item D D1 D2 hz hTI hTO h1 h2 l1 l2 fun x y h' tk px py a1 a2 a3 a4 a5 a6 a7 => wpAny_pure (hQ x y h' tk px py a1 a2 a3 a4 a5 a6 a7)) (F.args_zip_next_1 _))))
theorem pyNext_zipS_end {z TI TO i1 i2 : Addr} {f1 f2 : List Addr} {n : Nat} {P1 P2 : Nat → Value → Prop} {S1 S2 : Nat → Heap → Prop} {a b : Value} {Q : Option Value → Shared → Prop} (hh : A.handled = none) (D : ZApart z TI TO i1 i2 f1 f2)
    (D1 : Draws prog w A.in1 i1 f1 n P1 S1) (D2 : Draws prog w A.in1 i2 f2 n P2 S2)
    (hz : IsZipS s.heap z TI TO .none) (hTI : IsPair s.heap TI (.ref i1) (.ref i2)) (hTO : IsPair s.heap TO a b) (h1 : S1 n s.heap) (h2 : S2 n s.heap)
    (hQ : ∀ h', (∀ c o, c ≠ z → c ≠ TO → c ≠ i1 → c ≠ i2 → s.heap.get? c = some o → h'.get? c = some o) → Q none { s with heap := h' }) : wpAny (model prog w) A (pyNext (.ref z)) Q E s := by
  have hT : s.TypeIs (.ref z) "zip" := ⟨_, hz, rfl⟩
  unfold pyNext
  refine wpAny_bind (wpAny_attempt (wpAny_callSpecial?_slot (name := Str.ofString "__next__") hT F.slot_zip_next
    (wpAny_call_entry F.slot_zip_next hT F.entry_zip_next (zipS_next_end hh D D1 D2 hz hTI hTO h1 h2 fun h' e hk he => ?_) (F.args_zip_next_1 _))))
  obtain ⟨o, ho, hc⟩ := he
  refine wpAny_bind (wpAny_isInstance (T := "StopIteration") (b := true) ⟨o, ho, hc⟩ isSubtype_stop ?_)
  exact wpAny_pure (hQ _ hk)
theorem letOwnedTupleGo_zipS {elts : List Expr} {x1} {pos : Pos} {z TI TO T : Addr} {Q : Unit → Shared → Prop} (hz : IsZipS s.heap z TI TO (rawInt T))
    (hQ : ∀ h', IsZipS h' z TI TO .none → Heap.SameBut z s.heap h' → Q () { s with heap := h' }) :
    wpAny (model prog w) A (letOwnedTupleGo (.Tuple elts x1 pos) (.ref z) (.ref T)) Q E s := by
  unfold letOwnedTupleGo
  refine wpAny_bind (wpAny_load hz ?_)
  show wpAny _ _ (if (["enumerate", "zip", "dict_itemiterator", "dict_reverseitemiterator", "odict_iterator", "itertools.zip_longest", "itertools.pairwise"].contains "zip" &&
      (#[rawInt T, .bool false, .bool true, .ref TI, .ref TO] : Array Value)[0]? == some (rawInt T)) = true then _ else _) Q E s
  rw [if_pos (by simp)]
  refine wpAny_bind (wpAny_rule ?_)
  show wpAny _ _ (setField (.ref z) 0 .none) Q E s
  exact wpAny_setField_rec hz (by simp) fun h' hz' hs' => hQ h' hz' hs'
theorem pyIter_zipS {z TI TO : Addr} {f0 : Value} {Q : Value → Shared → Prop} (hz : IsZipS s.heap z TI TO f0) (h : Q (.ref z) s) : wpAny (model prog w) A (pyIter (.ref z)) Q E s := by
  have hT : s.TypeIs (.ref z) "zip" := ⟨_, hz, rfl⟩
  refine wpAny_pyIter_slot hT F.slot_zip_iter (wpAny_call_entry F.slot_zip_iter hT F.entry_zip_iter ?_ (F.args_zip_iter_1 _))
  show wpAny _ _ (ret (.ref z)) _ _ s
  exact wpAny_pure ⟨_, rfl, "zip", _, hT, F.slot_zip_next.lookup, h⟩

/-! ### the call, with the keyword -/
abbrev kwS : List (Str × Value) := [(Str.ofString "strict", .bool true)]
theorem typeCall_zipS (a b : Value) : checkTypeCall "zip" ⟨[a, b], kwS⟩ = pure () := by kernel_rfl
theorem newCall_zipS (a b : Value) : checkBuiltinCall "zip.__new__" ⟨[.type "zip", a, b], kwS⟩ = pure () := by kernel_rfl
theorem args_object_initS (a b c : Value) : argsOk "object.__init__" ⟨[a, b, c], kwS⟩ := by
  unfold argsOk; rw [signature?_of (id := "object.__init__") (n := ['_', '_', 't', 'i', 'n', 'i', '_', '_']) (o := ['t', 'c', 'e', 'j', 'b', 'o']) (by kernel_rfl) F.owner_object]; kernel_rfl
end
end K23
/-! zip(a, b, strict=True): the call -/
namespace K23
open PySem
open PySem.Sem (wp)
section
variable {prog : Program} {w : World} {A : Around} {E : Value → Shared → Prop} {s : Shared}
/-- a built-in class called with keywords, made by its own __new__ and object's __init__ -/
theorem callType_kw {T newId : String} {Bn : Builtin} {args : List Value} {kw : List (Str × Value)} {S : Spec} {Q : Value → Shared → Prop} (ft : TypeCalled T newId "object.__init__")
    (hne : (some newId != some "object.__new__") = true) (hct : checkTypeCall T ⟨args, kw⟩ = pure ()) (hcn : checkBuiltinCall newId ⟨.type T :: args, kw⟩ = pure ())
    (hok : ∀ obj, argsOk "object.__init__" ⟨obj :: args, kw⟩) (entryN : entryFor table newId = some Bn) (g : Meets (Bn ⟨.type T :: args, kw⟩) S) (hne2 : args ≠ [])
    (h : S A.in1 (wants (fun obj s₁ => s₁.TypeIs obj T ∧ Q obj s₁) E) s) : wpAny (model prog w) A (call (.type T) args kw) Q E s := by
  obtain ⟨c, tl, hmro⟩ := ft.mro
  have hmade := ft.made
  have hsub := ft.sub
  refine wpAny_call (codeAny_of_tree ?_)
  show wpAny _ _ (callAny (.type T) _) _ _ _
  refine wpAny_pure ⟨Code.quiet_builtin _ (by decide +kernel), codeAny_builtin F.entry_type_call ?_⟩
  rw [Around.under_plain (weight_type_call_type T args kw) (units_type_call_type T args kw)]
  have h1 := ft.notType
  have h2 := ft.canCreate
  repeat (any_goals (first | assumption | wp_step))
  refine codeAny_mono (codeAny_call_builtin ft.plain entryN (wpAny_of_eq hcn (g prog w A.in1 _ s h))) fun r s₁ hr => ?_
  cases r with
  | error e => exact hr
  | ok fl =>
    cases fl with
    | ret obj =>
      obtain ⟨hT, hq⟩ := hr
      have hli := ft.init.lookup
      have hbi := ft.init.bind obj
      repeat (any_goals (first | assumption | wp_step))
      have hm : Meets (Builtin.«object.__init__» ⟨obj :: args, kw⟩) (fun _ R s => s.TypeIs obj T ∧ R (.ok (.ret .none)) s) := by
        refine Meets.of_wp fun prog w A R s hs => ?_
        obtain ⟨hT, hq⟩ := hs
        have hl := ft.init.lookup
        have hm := ft.made
        cases args with
        | nil => exact absurd rfl hne2
        | cons a rest =>
          repeat (any_goals (first | assumption | wp_step))
          exact ⟨_, rfl, hq⟩
      refine codeAny_mono (codeAny_call_builtin ft.init.plain F.entry_object_init (ft.init.check _ _ _ _ _ _ _ _ hT (hok obj) (hm prog w A.in1 (wants (fun r s₂ => r = .none ∧ Q obj s₂) E) s₁ ⟨hT, rfl, hq⟩))) fun r₂ s₂ hr₂ => ?_
      cases r₂ with
      | error e => exact hr₂
      | ok fl₂ =>
        cases fl₂ with
        | ret r =>
          obtain ⟨rfl, hq⟩ := hr₂
          repeat (any_goals (first | assumption | wp_step))
        | _ => exact hr₂.elim
    | _ => exact hr.elim
end
end K23
/-! the data layer: values as trees (D), the heap hidden -/
namespace K23
open PySem PySem.Spec PyProof.Rows L2

/-- a value as a tree; ref: an object told by its address alone (a def's own growing list, the deck) -/
inductive D where
  | non | bl (b : Bool) | int (i : Int) | str (x : Str) | tup (xs : List D) | lst (xs : List D) | ref (a : Addr) | ktup (xs : List D)

mutual
/-- v stands for d, the objects at hand being those of F (never changed) -/
inductive Rep (K : PySem.W.Frag) (F : Hp) : D → V → Prop
  | non : Rep K F .non .non
  | bl (b : Bool) : Rep K F (.bl b) (.bl b)
  | int (i : Int) : Rep K F (.int i) (.int i)
  | str (x : Str) : Rep K F (.str x) (.str x)
  | tup {a : Addr} {vs : List V} {ds : List D} : F a = some (.tup vs) → Reps K F ds vs → Rep K F (.tup ds) (.ref a)
  | ktup {a : Addr} {vs : List V} {ds : List D} : SqT K (fun _ => none) a vs → Reps K F ds vs → Rep K F (.ktup ds) (.ref a)
  | lst {a : Addr} {vs : List V} {ds : List D} : SqL K F a vs → Reps K F ds vs → Rep K F (.lst ds) (.ref a)
  | ref (a : Addr) : Rep K F (.ref a) (.ref a)
inductive Reps (K : PySem.W.Frag) (F : Hp) : List D → List V → Prop
  | nil : Reps K F [] []
  | cons {d : D} {v : V} {ds : List D} {vs : List V} : Rep K F d v → Reps K F ds vs → Reps K F (d :: ds) (v :: vs)
end

theorem Same.sqT {K : PySem.W.Frag} {H H' : Hp} {a : Addr} {xs : List V} (e : Same H H') (h : SqT K H a xs) : SqT K H' a xs := by
  rcases h with (h | ⟨o, h⟩) | h
  · exact .inl (.inl (e _ _ h))
  · exact .inl (.inr ⟨o, e _ _ h⟩)
  · exact .inr h
theorem Same.seqT {K : PySem.W.Frag} {H H' : Hp} {a : Addr} {xs : List V} (e : Same H H') (h : H a = some (.tup xs)) : SqT K H' a xs := .inl (.inl (e _ _ h))
theorem sqT_k {K : PySem.W.Frag} {H : Hp} {a : Addr} {xs : List V} (h : SqT K (fun _ => none) a xs) : SqT K H a xs := by
  rcases h with (h | ⟨o, h⟩) | h
  · cases h
  · cases h
  · exact .inr h

section
variable {K : PySem.W.Frag} {F F' : Hp}
mutual
theorem Rep.mono (e : Same F F') : ∀ (d : D) (v : V), Rep K F d v → Rep K F' d v
  | .non, _, h => by cases h; exact .non
  | .bl b, _, h => by cases h; exact .bl b
  | .int i, _, h => by cases h; exact .int i
  | .str x, _, h => by cases h; exact .str x
  | .tup ds, _, h => by
    cases h with
    | tup s r => exact .tup (e _ _ s) (Reps.mono e ds _ r)
  | .lst ds, _, h => by
    cases h with
    | lst s r => exact .lst (e.seq s) (Reps.mono e ds _ r)
  | .ref a, _, h => by cases h; exact .ref a
  | .ktup ds, _, h => by
    cases h with
    | ktup s r => exact .ktup s (Reps.mono e ds _ r)
theorem Reps.mono (e : Same F F') : ∀ (ds : List D) (vs : List V), Reps K F ds vs → Reps K F' ds vs
  | [], _, h => by cases h; exact .nil
  | d :: ds, _, h => by
    cases h with
    | cons r t => exact .cons (Rep.mono e d _ r) (Reps.mono e ds _ t)
end
theorem Reps.length : ∀ {ds : List D} {vs : List V}, Reps K F ds vs → vs.length = ds.length
  | [], _, h => by cases h; rfl
  | d :: ds, _, h => by
    cases h with
    | cons r t => rw [List.length_cons, List.length_cons, Reps.length t]
theorem Reps.get : ∀ {ds : List D} {vs : List V} {i : Nat} {d : D}, Reps K F ds vs → ds[i]? = some d → ∃ v, vs[i]? = some v ∧ Rep K F d v
  | [], _, _, _, h, e => by simp at e
  | x :: ds, _, 0, d, h, e => by
    cases h with
    | cons r t =>
      have e' : x = d := by simpa using e
      subst e'
      exact ⟨_, rfl, r⟩
  | x :: ds, _, i + 1, d, h, e => by
    cases h with
    | cons r t =>
      obtain ⟨v, h1, h2⟩ := Reps.get (i := i) (d := d) t (by simpa using e)
      exact ⟨v, by simpa using h1, h2⟩
theorem Reps.getV : ∀ {ds : List D} {vs : List V} {i : Nat} {v : V}, Reps K F ds vs → vs[i]? = some v → ∃ d, ds[i]? = some d ∧ Rep K F d v
  | [], _, _, _, h, e => by cases h; simp at e
  | x :: ds, _, 0, v, h, e => by
    cases h with
    | cons r t =>
      rw [List.getElem?_cons_zero] at e
      cases e
      exact ⟨_, rfl, r⟩
  | x :: ds, _, i + 1, v, h, e => by
    cases h with
    | cons r t =>
      obtain ⟨d, h1, h2⟩ := Reps.getV (i := i) (v := v) t (by simpa using e)
      exact ⟨d, by simpa using h1, h2⟩
theorem Reps.append : ∀ {ds es : List D} {vs ws : List V}, Reps K F ds vs → Reps K F es ws → Reps K F (ds ++ es) (vs ++ ws)
  | [], _, _, _, h, h' => by cases h; exact h'
  | d :: ds, _, _, _, h, h' => by
    cases h with
    | cons r t => exact .cons r (Reps.append t h')
theorem Reps.drop : ∀ {ds : List D} {vs : List V} (n : Nat), Reps K F ds vs → Reps K F (ds.drop n) (vs.drop n)
  | _, _, 0, h => h
  | _, _, n + 1, .nil => .nil
  | _, _, n + 1, .cons r t => Reps.drop n t
theorem Reps.take : ∀ {ds : List D} {vs : List V} (n : Nat), Reps K F ds vs → Reps K F (ds.take n) (vs.take n)
  | _, _, 0, _ => .nil
  | _, _, n + 1, .nil => .nil
  | _, _, n + 1, .cons r t => .cons r (Reps.take n t)
theorem Reps.reverse : ∀ {ds : List D} {vs : List V}, Reps K F ds vs → Reps K F ds.reverse vs.reverse
  | _, _, .nil => .nil
  | _, _, .cons r t => by
    rw [List.reverse_cons, List.reverse_cons]
    exact (Reps.reverse t).append (.cons r .nil)
theorem Reps.ints : ∀ {ns : List Int} {vs : List V}, Reps K F (ns.map D.int) vs → vs = ns.map V.int
  | [], _, h => by cases h; rfl
  | n :: ns, _, h => by
    cases h with
    | cons r t =>
      cases r
      rw [Reps.ints t]
      rfl
theorem Reps.of_ints : ∀ {ns : List Int}, Reps K F (ns.map D.int) (ns.map V.int)
  | [] => .nil
  | n :: ns => .cons (.int n) Reps.of_ints
theorem Reps.bls : ∀ {ns : List Bool} {vs : List V}, Reps K F (ns.map D.bl) vs → vs = ns.map V.bl
  | [], _, h => by cases h; rfl
  | n :: ns, _, h => by
    cases h with
    | cons r t =>
      cases r
      rw [Reps.bls t]
      rfl
theorem Reps.strs : ∀ {ns : List Str} {vs : List V}, Reps K F (ns.map D.str) vs → vs = ns.map V.str
  | [], _, h => by cases h; rfl
  | n :: ns, _, h => by
    cases h with
    | cons r t =>
      cases r
      rw [Reps.strs t]
      rfl
end

/-! ### slots -/
abbrev DEnv := List (Option D)
def RepO (K : PySem.W.Frag) (F : Hp) : Option D → Option V → Prop
  | none, _ => True
  | some d, some v => Rep K F d v
  | some _, none => False
abbrev ERep (K : PySem.W.Frag) (F : Hp) : DEnv → L2.St → Prop := Paired (RepO K F)
section
variable {K : PySem.W.Frag} {F F' : Hp}
theorem RepO.mono (e : Same F F') : ∀ (o : Option D) (q : Option V), RepO K F o q → RepO K F' o q
  | none, _, _ => trivial
  | some d, some v, h => Rep.mono e d v h
  | some _, none, h => h
theorem ERep.mono (e : Same F F') {ds : DEnv} {σ : L2.St} (h : ERep K F ds σ) : ERep K F' ds σ := L2.Paired.mapP h (RepO.mono e)
theorem ERep.get : ∀ {ds : DEnv} {σ : L2.St} {i : Nat} {d : D}, ERep K F ds σ → ds[i]? = some (some d) → ∃ v, σ[i]? = some (some v) ∧ Rep K F d v
  | _, _, _, _, .nil, e => by simp at e
  | _, _, 0, d, .cons (a := a) (b := b) r _, e => by
    have e' : a = some d := by simpa using e
    subst e'
    cases b with
    | none => exact r.elim
    | some v => exact ⟨v, rfl, r⟩
  | _, _, i + 1, d, .cons _ t, e => by
    obtain ⟨v, h1, h2⟩ := ERep.get (i := i) (d := d) t (by simpa using e)
    exact ⟨v, by simpa using h1, h2⟩
theorem ERep.set {o : Option D} {q : Option V} (r : RepO K F o q) : ∀ {ds : DEnv} {σ : L2.St} (i : Nat), ERep K F ds σ → ERep K F (ds.set i o) (σ.set i q)
  | _, _, _, .nil => .nil
  | _, _, 0, .cons _ t => .cons r t
  | _, _, i + 1, .cons p t => .cons p (ERep.set r i t)
def wipeD (ds : DEnv) : List Nat → DEnv
  | [] => ds
  | v :: vs => (wipeD ds vs).set v none
theorem ERep.wipe {ds : DEnv} {σ : L2.St} (h : ERep K F ds σ) : ∀ vs : List Nat, ERep K F (wipeD ds vs) (L2.wipe σ vs)
  | [] => h
  | v :: vs => (ERep.wipe h vs).set (o := none) (q := none) trivial v
def startD (n : Nat) (xs : List D) : DEnv := xs.map some ++ List.replicate (n - xs.length) none
theorem ERep.ofReps : ∀ {xs : List D} {vs : List V} {ds : DEnv} {σ : L2.St}, Reps K F xs vs → ERep K F ds σ → ERep K F (xs.map some ++ ds) (vs.map some ++ σ)
  | [], _, _, _, h, t => by cases h; exact t
  | x :: xs, _, _, _, h, t => by
    cases h with
    | cons r q => exact .cons r (ERep.ofReps q t)
theorem ERep.nones : ∀ n : Nat, ERep K F (List.replicate n none) (List.replicate n none)
  | 0 => .nil
  | n + 1 => .cons trivial (ERep.nones n)
theorem ERep.start {N : List Str} {xs : List D} {vs : List V} (h : Reps K F xs vs) : ERep K F (startD N.length xs) (L2.start N vs) := by
  unfold startD L2.start
  rw [h.length]
  exact ERep.ofReps h (ERep.nones _)
end

/-! ### what is known of the heap -/
/-- the deck: its list, its list of great cells, its list of cells; how many draws so far -/
structure Dk where
  a : Addr
  b : Addr
  c : Addr
  n : Nat
/-- the changing things: the deck, the def's own growing list -/
structure M where
  dk : Option Dk
  ow : Option (Addr × List D)
/-- where the def began -/
structure Gh where
  B : Hp
  FB : Hp
  dk0 : Option Dk

def DeckOk (K : PySem.W.Frag) (F H : Hp) (d : Dk) : Prop := ∃ (cells bigs : List Int) (i : Nat), H d.a = some (.lst [.ref d.c, .ref d.b, .int i, .int d.n]) ∧ H d.b = some (.lst (bigs.map V.int)) ∧ SqL K F d.c (cells.map V.int) ∧ F d.a = none ∧ F d.b = none ∧ d.a ≠ d.b
def OwOk (K : PySem.W.Frag) (G : Gh) (F : Hp) (dk : Option Dk) (H : Hp) (p : Addr) (xs : List D) : Prop := F p = none ∧ G.B p = none ∧ (∃ vs, H p = some (.lst vs) ∧ Reps K F xs vs) ∧ ∀ d, dk = some d → p ≠ d.a ∧ p ≠ d.b

structure HeapOk (K : PySem.W.Frag) (G : Gh) (F : Hp) (m : M) (H : Hp) : Prop where
  sub : Same F H
  subB : Same G.FB F
  fresh : ∀ b o, F b = some o → G.FB b = some o ∨ G.B b = none ∨ ∃ xs, o = .tup xs
  keep : ∀ b o, G.B b = some o → (∀ d, G.dk0 = some d → b ≠ d.a ∧ b ≠ d.b) → H b = some o
  dk : ∀ d, m.dk = some d → DeckOk K F H d
  dkn : ∀ d, m.dk = some d → G.dk0 = none → G.B d.a = none ∧ G.B d.b = none
  dk0 : ∀ d, G.dk0 = some d → ∃ d', m.dk = some d' ∧ d'.a = d.a ∧ d'.b = d.b ∧ d'.c = d.c
  ow : ∀ p xs, m.ow = some (p, xs) → OwOk K G F m.dk H p xs

section
variable {K : PySem.W.Frag} {G : Gh} {F F' H H' : Hp} {m m' : M}
theorem HeapOk.freshB (h : HeapOk K G F m H) {p : Addr} (hp : H p = none) : G.B p = none := by
  cases e : G.B p with
  | none => rfl
  | some o =>
    exfalso
    by_cases hd : ∀ d, G.dk0 = some d → p ≠ d.a ∧ p ≠ d.b
    · rw [h.keep p o e hd] at hp
      cases hp
    · apply hd
      intro d e0
      obtain ⟨d', e1, ea, eb, ec⟩ := h.dk0 d e0
      obtain ⟨_, _, _, h1, h2, _⟩ := h.dk d' e1
      constructor
      · intro z
        rw [← ea] at z
        rw [z, h1] at hp
        cases hp
      · intro z
        rw [← eb] at z
        rw [z, h2] at hp
        cases hp
theorem HeapOk.freshF (h : HeapOk K G F m H) {p : Addr} (hp : H p = none) : F p = none := h.sub.free hp
theorem DeckOk.stay {d : Dk} (h : DeckOk K F H d) (s : Same F F') (ha : H' d.a = H d.a) (hb : H' d.b = H d.b) (fa : F' d.a = none) (fb : F' d.b = none) : DeckOk K F' H' d := by
  obtain ⟨cells, bigs, i, h1, h2, h3, h4, h5, h6⟩ := h
  exact ⟨cells, bigs, i, by rw [ha, h1], by rw [hb, h2], s.seq h3, fa, fb, h6⟩
/-- a new object, never to be changed -/
theorem HeapOk.new (h : HeapOk K G F m H) {p : Addr} {o : HO} (hp : H p = none) : Same F (upd F p o) ∧ HeapOk K G (upd F p o) m (upd H p o) := by
  have fp := h.freshF hp
  have s1 : Same F (upd F p o) := fun b x e => by rw [upd_ne (ne_of_none e fp)]; exact e
  have s2 : Same H (upd H p o) := fun b x e => by rw [upd_ne (ne_of_none e hp)]; exact e
  refine ⟨s1, ⟨fun b x e => ?_, h.subB.trans s1, fun b x e => ?_, fun b x e hd => s2 _ _ (h.keep b x e hd), fun d e => ?_, h.dkn, h.dk0, fun q xs e => ?_⟩⟩
  · by_cases hb : b = p
    · subst hb; rw [upd_same] at e ⊢; exact e
    · rw [upd_ne hb] at e ⊢; exact h.sub _ _ e
  · by_cases hb : b = p
    · subst hb; exact .inr (.inl (h.freshB hp))
    · rw [upd_ne hb] at e; exact h.fresh _ _ e
  · have q := h.dk d e
    obtain ⟨_, _, _, h1, h2, _, h4, h5, _⟩ := id q
    exact q.stay s1 (by rw [upd_ne (ne_of_none h1 hp)]) (by rw [upd_ne (ne_of_none h2 hp)]) (by rw [upd_ne (ne_of_none h1 hp)]; exact h4) (by rw [upd_ne (ne_of_none h2 hp)]; exact h5)
  · obtain ⟨q1, q2, ⟨vs, q3, q4⟩, q5⟩ := h.ow q xs e
    have nq := ne_of_none q3 hp
    exact ⟨by rw [upd_ne nq]; exact q1, q2, ⟨vs, by rw [upd_ne nq]; exact q3, Reps.mono s1 _ _ q4⟩, q5⟩
/-- a new object, of no interest -/
theorem HeapOk.junk (h : HeapOk K G F m H) {p : Addr} {o : HO} (hp : H p = none) : HeapOk K G F m (upd H p o) := by
  have s2 : Same H (upd H p o) := fun b x e => by rw [upd_ne (ne_of_none e hp)]; exact e
  refine ⟨h.sub.trans s2, h.subB, h.fresh, fun b x e hd => s2 _ _ (h.keep b x e hd), fun d e => ?_, h.dkn, h.dk0, fun q xs e => ?_⟩
  · have q := h.dk d e
    obtain ⟨_, _, _, h1, h2, _, h4, h5, _⟩ := id q
    exact q.stay (Same.refl _) (by rw [upd_ne (ne_of_none h1 hp)]) (by rw [upd_ne (ne_of_none h2 hp)]) h4 h5
  · obtain ⟨q1, q2, ⟨vs, q3, q4⟩, q5⟩ := h.ow q xs e
    exact ⟨q1, q2, ⟨vs, s2 _ _ q3, q4⟩, q5⟩
/-- a place from which a callee (or a comprehension's turn) starts -/
theorem HeapOk.rebase (h : HeapOk K G F m H) : HeapOk K ⟨H, F, m.dk⟩ F ⟨m.dk, none⟩ H :=
  { sub := h.sub
    subB := Same.refl _
    fresh := fun _ _ e => .inl e
    keep := fun _ _ e _ => e
    dk := fun d e => h.dk d e
    dkn := fun d e e0 => by
      have e1 : m.dk = none := e0
      have e2 : m.dk = some d := e
      rw [e1] at e2
      cases e2
    dk0 := fun d e => ⟨d, e, rfl, rfl, rfl⟩
    ow := fun _ _ e => by cases e }
/-- what isn't kept for ever at the start isn't at the end -/
theorem HeapOk.notF {k : Option Dk} {p : Addr} {o : HO} (h : HeapOk K ⟨H, F, k⟩ F' m H') (hp : H p = some o) (f : F p = none) (nt : ∀ xs, o ≠ .tup xs := by intro _ e; cases e) : F' p = none := by
  cases e : F' p with
  | none => rfl
  | some u =>
    rcases h.fresh p u e with q | q | ⟨xs, rfl⟩
    · have q : F p = some u := q
      rw [f] at q; cases q
    · have q : H p = none := q
      rw [hp] at q; cases q
    · have hs := h.sub p _ e
      by_cases hd : ∀ d, k = some d → p ≠ d.a ∧ p ≠ d.b
      · rw [h.keep p o hp hd] at hs
        cases hs
        exact absurd rfl (nt xs)
      · exfalso
        apply hd
        intro d e0
        obtain ⟨d', e1, ea, eb, _⟩ := h.dk0 d e0
        obtain ⟨_, _, _, _, _, _, h4, h5, _⟩ := h.dk d' e1
        constructor
        · intro z
          rw [← ea] at z
          rw [z, h4] at e
          cases e
        · intro z
          rw [← eb] at z
          rw [z, h5] at e
          cases e
theorem HeapOk.unbase (h : HeapOk K G F m H) (h' : HeapOk K ⟨H, F, m.dk⟩ F' m' H') : HeapOk K G F' ⟨m'.dk, m.ow⟩ H' := by
  refine ⟨h'.sub, h.subB.trans h'.subB, fun b o e => ?_, fun b o e hd => ?_, fun d e => h'.dk d e, fun d e e0 => ?_, fun d e => ?_, fun p xs e => ?_⟩
  · rcases h'.fresh b o e with q | q | q
    · exact h.fresh b o q
    · exact .inr (.inl (h.freshB q))
    · exact .inr (.inr q)
  · refine h'.keep b o (h.keep b o e hd) fun d e1 => ?_
    have e1 : m.dk = some d := e1
    cases e0 : G.dk0 with
    | none =>
      obtain ⟨n1, n2⟩ := h.dkn d e1 e0
      exact ⟨ne_of_none e n1, ne_of_none e n2⟩
    | some d0 =>
      obtain ⟨d', e2, ea, eb, _⟩ := h.dk0 d0 e0
      rw [e1] at e2; cases e2
      obtain ⟨z1, z2⟩ := hd d0 e0
      exact ⟨by rw [ea]; exact z1, by rw [eb]; exact z2⟩
  · have e : m'.dk = some d := e
    cases e1 : m.dk with
    | none =>
      obtain ⟨n1, n2⟩ := h'.dkn d e e1
      exact ⟨h.freshB n1, h.freshB n2⟩
    | some d1 =>
      obtain ⟨d2, e2, ea, eb, _⟩ := h'.dk0 d1 e1
      rw [e] at e2; cases e2
      obtain ⟨n1, n2⟩ := h.dkn d1 e1 e0
      exact ⟨by rw [ea]; exact n1, by rw [eb]; exact n2⟩
  · obtain ⟨d1, e1, ea, eb, ec⟩ := h.dk0 d e
    obtain ⟨d2, e2, fa, fb, fc⟩ := h'.dk0 d1 e1
    exact ⟨d2, e2, fa.trans ea, fb.trans eb, fc.trans ec⟩
  · obtain ⟨q1, q2, ⟨vs, q3, q4⟩, q5⟩ := h.ow p xs e
    have nf : F' p = none := h'.notF q3 q1
    refine ⟨nf, q2, ⟨vs, h'.keep p _ q3 fun d e1 => q5 d e1, Reps.mono h'.subB _ _ q4⟩, fun d e1 => ?_⟩
    cases e2 : m.dk with
    | none =>
      obtain ⟨n1, n2⟩ := h'.dkn d e1 e2
      exact ⟨ne_of_none q3 n1, ne_of_none q3 n2⟩
    | some d1 =>
      obtain ⟨d2, e3, ea, eb, _⟩ := h'.dk0 d1 e2
      have e1 : m'.dk = some d := e1
      rw [e1] at e3; cases e3
      obtain ⟨z1, z2⟩ := q5 d1 e2
      exact ⟨by rw [ea]; exact z1, by rw [eb]; exact z2⟩
end
end K23
/-! the data layer's rules: expressions -/
namespace K23
open PySem PySem.Spec PyProof.Rows L2

abbrev DT := DEnv → M → (D → M → Prop) → Prop
abbrev DTt := DEnv → M → (Bool → M → Prop) → Prop
abbrev DTa := DEnv → M → (List D → M → Prop) → Prop
/-- what is handed on to whoever wants a value -/
def Fin (K : PySem.W.Frag) (G : Gh) (F : Hp) (R : D → M → Prop) (Q : VK) : Prop := ∀ d m' v F' H', R d m' → Same F F' → HeapOk K G F' m' H' → Rep K F' d v → Q v H'
def LE (K : PySem.W.Frag) (t : DT) : TE := fun σ H Q => ∃ ds m F G R, ERep K F ds σ ∧ HeapOk K G F m H ∧ t ds m R ∧ Fin K G F R Q
def LT (K : PySem.W.Frag) (t : DTt) : TT := fun σ H Q => ∃ ds m F G R, ERep K F ds σ ∧ HeapOk K G F m H ∧ t ds m R ∧ ∀ b m' F' H', R b m' → Same F F' → HeapOk K G F' m' H' → Q b H'
def LA (K : PySem.W.Frag) (n : Nat) (t : DTa) : TA := fun σ H Q => ∃ ds m F G R, ERep K F ds σ ∧ HeapOk K G F m H ∧ t ds m R ∧ ∀ xs m' vs F' H', R xs m' → xs.length = n → Same F F' → HeapOk K G F' m' H' → Reps K F' xs vs → Q vs H'
abbrev DE (X : Cx) (e : Expr) (t : DT) : Prop := PE X e (LE X.K t)
abbrev DTs (X : Cx) (e : Expr) (t : DTt) : Prop := PT X e (LT X.K t)
abbrev DA (X : Cx) (es : List Expr) (n : Nat) (t : DTa) : Prop := PA X es (LA X.K n t)

section
variable {X : Cx}
theorem pe_imp {e : Expr} {t t' : TE} (h : PE X e t) (w : ∀ σ H Q, t' σ H Q → t σ H Q) : PE X e t' := ⟨fun pins s σ H Q I hw => h.run pins s σ H Q I (w σ H Q hw)⟩
theorem pt_imp {e : Expr} {t t' : TT} (h : PT X e t) (w : ∀ σ H Q, t' σ H Q → t σ H Q) : PT X e t' := ⟨fun pins s σ H Q I hw => h.run pins s σ H Q I (w σ H Q hw)⟩
theorem pw_imp {e : Expr} {t t' : TT} (h : PW X e t) (w : ∀ σ H Q, t' σ H Q → t σ H Q) : PW X e t' := ⟨fun wh pins s σ H Q I hw => h.run wh pins s σ H Q I (w σ H Q hw)⟩
theorem pa_imp {e : List Expr} {t t' : TA} (h : PA X e t) (w : ∀ σ H Q, t' σ H Q → t σ H Q) : PA X e t' := ⟨fun pos pins s σ H Q I hw => h.run pos pins s σ H Q I (w σ H Q hw)⟩
theorem ps_imp {e : Stmt} {t t' : TS} (h : PS X e t) (w : ∀ D σ H, t' D σ H → t D σ H) : PS X e t' := ⟨fun pins s σ H D I hw => h.run pins s σ H D I (w D σ H hw)⟩
theorem pss_imp {e : List Stmt} {t t' : TS} (h : PSs X e t) (w : ∀ D σ H, t' D σ H → t D σ H) : PSs X e t' := ⟨fun pins s σ H D I hw => h.run pins s σ H D I (w D σ H hw)⟩

/-! ### names, constants -/
def dVar (i : Nat) : DT := fun ds m R => match ds[i]? with
  | some (some d) => R d m
  | _ => False
theorem dvar_inv {i : Nat} {ds : DEnv} {m : M} {R : D → M → Prop} (h : dVar i ds m R) : ∃ d, ds[i]? = some (some d) ∧ R d m := by
  unfold dVar at h
  split at h
  · exact ⟨_, by assumption, h⟩
  · exact h.elim
theorem de_var (i : Nat) {x : Str} {pos : Pos} (hN : X.N[i]? = some x := by rfl) (hv : Vis X.env.scope x := by first | exact Or.inl rfl | exact Or.inr (Or.inl rfl) | exact Or.inr (Or.inr rfl)) (hd : (x == ("__debug__" : Str)) = false := by decide)
    (hcd : (x == ("__classdict__" : Str)) = false := by decide) : DE X (.Name x pos) (dVar i) :=
  pe_imp (pv i hN hv hd hcd) fun σ H Q ⟨ds, m, F, G, R, he, hh, ht, hk⟩ => by
    obtain ⟨d, e, r⟩ := dvar_inv ht
    obtain ⟨v, e2, r2⟩ := he.get e
    exact ⟨v, e2, hk d m v F H r (Same.refl _) hh r2⟩
def dC (d : D) : DT := fun _ m R => R d m
theorem de_const {e : Expr} {v : V} {d : D} (h : PE X e (tC v)) (r : ∀ F, Rep X.K F d v) : DE X e (dC d) :=
  pe_imp h fun σ H Q ⟨ds, m, F, G, R, he, hh, ht, hk⟩ => hk d m v F H ht (Same.refl _) hh (r F)
theorem de_int {i j pos} : DE X (.Constant (.int i) j pos) (dC (.int i)) := de_const pe_int fun _ => .int i
theorem de_bl {b j pos} : DE X (.Constant (.bool b) j pos) (dC (.bl b)) := de_const pe_bl fun _ => .bl b
theorem de_non {j pos} : DE X (.Constant .none j pos) (dC .non) := de_const pe_non fun _ => .non
theorem de_str {x j pos} : DE X (.Constant (.str x) j pos) (dC (.str x)) := de_const pe_str fun _ => .str x

/-! ### operators -/
/-- a binary rule by values, as data -/
def BinD (K : PySem.W.Frag) (r : R2) (o : D → D → M → (D → M → Prop) → Prop) : Prop := ∀ x y v w F G m H R Q, Rep K F x v → Rep K F y w → HeapOk K G F m H → o x y m R → Fin K G F R Q → r v w H Q
def dBin (o : D → D → M → (D → M → Prop) → Prop) (ta tb : DT) : DT := fun ds m R => ta ds m fun x m1 => tb ds m1 fun y m2 => o x y m2 R
theorem Fin.mono {K : PySem.W.Frag} {G : Gh} {F F' : Hp} {R : D → M → Prop} {Q : VK} (s : Same F F') (h : Fin K G F R Q) : Fin K G F' R Q := fun d m' v F2 H' r s2 hh p => h d m' v F2 H' r (s.trans s2) hh p
theorem bin_ok {r : R2} {o : D → D → M → (D → M → Prop) → Prop} (ho : BinD X.K r o) {ta tb : DT} {σ : L2.St} {H : Hp} {Q : VK} (h : LE X.K (dBin o ta tb) σ H Q) : tOp r (LE X.K ta) (LE X.K tb) σ H Q := by
  obtain ⟨ds, m, F, G, R, he, hh, ht, hk⟩ := h
  refine ⟨ds, m, F, G, _, he, hh, ht, fun x m1 v F1 H1 r1 s1 h1 p1 => ⟨ds, m1, F1, G, _, he.mono s1, h1, r1, fun y m2 w F2 H2 r2 s2 h2 p2 => ?_⟩⟩
  exact ho x y v w F2 G m2 H2 R Q (Rep.mono s2 _ _ p1) p2 h2 r2 (hk.mono (s1.trans s2))
theorem de_bin {op : Operator} {r : R2} {o} {a b : Expr} {ta tb : DT} {pos : Pos} (hr : OpR X (binaryOp op) r) (ho : BinD X.K r o) (ha : DE X a ta) (hb : DE X b tb) : DE X (.BinOp a op b pos) (dBin o ta tb) :=
  pe_imp (pe_op hr ha hb) fun _ _ _ h => bin_ok ho h
theorem de_cmp {op : CmpOp} {r : R2} {o} {a b : Expr} {ta tb : DT} {pos : Pos} (hr : OpR X (compareOp op) r) (ho : BinD X.K r o) (ha : DE X a ta) (hb : DE X b tb) (hm : behindInMarks op b = false := by first | exact nomark _ | rfl) : DE X (.Compare a [op] [b] pos) (dBin o ta tb) :=
  pe_imp (pe_cmpR hr ha hb hm) fun _ _ _ h => bin_ok ho h
/-- a value that is a truth, as a test -/
def dTst (t : DT) : DTt := fun ds m R => t ds m fun d m' => match d with
  | .bl b => R b m'
  | _ => False
theorem tst_ok {t : DT} {σ : L2.St} {H : Hp} {Q : Bool → Hp → Prop} (h : LT X.K (dTst t) σ H Q) : LE X.K t σ H fun x H' => ∃ k, x = .bl k ∧ Q k H' := by
  obtain ⟨ds, m, F, G, R, he, hh, ht, hk⟩ := h
  refine ⟨ds, m, F, G, _, he, hh, ht, fun d m' v F' H' r s hh' p => ?_⟩
  cases d with
  | bl b =>
    cases p
    exact ⟨b, rfl, hk b m' F' H' r s hh'⟩
  | _ => exact r.elim
theorem dt_cmp {op : CmpOp} {r : R2} {o} {a b : Expr} {ta tb : DT} {pos : Pos} (hr : OpR X (compareOp op) r) (ho : BinD X.K r o) (ha : DE X a ta) (hb : DE X b tb) (hm : behindInMarks op b = false := by first | exact nomark _ | rfl) : DTs X (.Compare a [op] [b] pos) (dTst (dBin o ta tb)) :=
  pt_imp (pt_cmpR hr ha hb hm) fun σ H Q h => by
    have h2 := tst_ok h
    obtain ⟨ds, m, F, G, R, he, hh, ht, hk⟩ := h2
    exact bin_ok ho ⟨ds, m, F, G, R, he, hh, ht, hk⟩
theorem dt_val {e : Expr} {t : DT} (h : DE X e t) (he : ∀ whole, isTrue e X.env whole = (do let v ← whole; standAt e.pos; holding [v] (truthy v)) := by intro _; rfl) : DTs X e (dTst t) :=
  pt_imp (pt_val h he) fun _ _ _ h => tst_ok h
/-- two ints -/
def oI (C : Int → Int → Prop) (g : Int → Int → D) : D → D → M → (D → M → Prop) → Prop := fun x y m R => match x, y with
  | .int i, .int j => C i j ∧ R (g i j) m
  | _, _ => False
def oI0 (g : Int → Int → D) : D → D → M → (D → M → Prop) → Prop := fun x y m R => match x, y with
  | .int i, .int j => R (g i j) m
  | _, _ => False
theorem binI {K : PySem.W.Frag} {C : Int → Int → Prop} {g : Int → Int → V} {g' : Int → Int → D} (hg : ∀ i j F, Rep K F (g' i j) (g i j)) : BinD K (rI C g) (oI C g') := by
  intro x y v w F G m H R Q p1 p2 hh ho hk
  unfold oI at ho
  split at ho
  · cases p1; cases p2
    exact ⟨_, _, rfl, rfl, ho.1, hk _ _ _ _ _ ho.2 (Same.refl _) hh (hg _ _ _)⟩
  · exact ho.elim
theorem binI0 {K : PySem.W.Frag} {g : Int → Int → V} {g' : Int → Int → D} (hg : ∀ i j F, Rep K F (g' i j) (g i j)) : BinD K (rI0 g) (oI0 g') := by
  intro x y v w F G m H R Q p1 p2 hh ho hk
  unfold oI0 at ho
  split at ho
  · cases p1; cases p2
    exact ⟨_, _, rfl, rfl, hk _ _ _ _ _ ho (Same.refl _) hh (hg _ _ _)⟩
  · exact ho.elim
variable {a b : Expr} {ta tb : DT} {pos : Pos}
abbrev dAdd := dBin (oI0 fun i j => .int (i + j))
abbrev dSub := dBin (oI0 fun i j => .int (i - j))
abbrev dMul := dBin (oI CMulW fun i j => .int (i * j))
theorem de_add (ha : DE X a ta) (hb : DE X b tb) : DE X (.BinOp a .Add b pos) (dAdd ta tb) := de_bin op_add (binI0 fun _ _ _ => .int _) ha hb
theorem de_sub (ha : DE X a ta) (hb : DE X b tb) : DE X (.BinOp a .Sub b pos) (dSub ta tb) := de_bin op_sub (binI0 fun _ _ _ => .int _) ha hb
theorem de_mul (ha : DE X a ta) (hb : DE X b tb) : DE X (.BinOp a .Mult b pos) (dMul ta tb) := de_bin op_mulW (binI fun _ _ _ => .int _) ha hb
/-- // by a divisor of either sign, below 2 ^ 9000 -/
def CDivZ (_ j : Int) : Prop := j ≠ 0 ∧ j.natAbs.log2 < 9000
theorem op_fdivZ : OpR X (binaryOp .FloorDiv) (rI CDivZ fun i j => .int (i.fdiv j)) := opI fun i j _ _ _ _ _ hc q => floordiv_int hc.1 q (.inl (PyProof.noPylong_of_log2 hc.2))
abbrev dFdiv := dBin (oI CDivZ fun i j => .int (i.fdiv j))
theorem de_fdiv (ha : DE X a ta) (hb : DE X b tb) : DE X (.BinOp a .FloorDiv b pos) (dFdiv ta tb) := de_bin op_fdivZ (binI fun _ _ _ => .int _) ha hb
abbrev dMod := dBin (oI (fun _ j => 0 < j) fun i j => .int (i % j))
theorem de_mod (ha : DE X a ta) (hb : DE X b tb) : DE X (.BinOp a .Mod b pos) (dMod ta tb) := de_bin op_mod (binI fun _ _ _ => .int _) ha hb
abbrev dPow := dBin (oI CPow fun i j => .int (i ^ j.toNat))
theorem de_pow (ha : DE X a ta) (hb : DE X b tb) : DE X (.BinOp a .Pow b pos) (dPow ta tb) := de_bin op_pow (binI fun _ _ _ => .int _) ha hb
/-- comparisons of ints -/
abbrev dLt := dBin (oI0 fun i j => .bl (decide (i < j)))
abbrev dLe := dBin (oI0 fun i j => .bl (decide (i ≤ j)))
abbrev dGt := dBin (oI0 fun i j => .bl (decide (j < i)))
abbrev dGe := dBin (oI0 fun i j => .bl (decide (j ≤ i)))
theorem bLt {K} : BinD K (rI0 fun i j => .bl (decide (i < j))) (oI0 fun i j => .bl (decide (i < j))) := binI0 fun _ _ _ => .bl _
theorem bLe {K} : BinD K (rI0 fun i j => .bl (decide (i ≤ j))) (oI0 fun i j => .bl (decide (i ≤ j))) := binI0 fun _ _ _ => .bl _
theorem bGt {K} : BinD K (rI0 fun i j => .bl (decide (j < i))) (oI0 fun i j => .bl (decide (j < i))) := binI0 fun _ _ _ => .bl _
theorem bGe {K} : BinD K (rI0 fun i j => .bl (decide (j ≤ i))) (oI0 fun i j => .bl (decide (j ≤ i))) := binI0 fun _ _ _ => .bl _
/-- ==, != of ints, truths, texts -/
def oEq (neg : Bool) : D → D → M → (D → M → Prop) → Prop := fun x y m R => match x, y with
  | .int i, .int j => R (.bl (if neg then !decide (i = j) else decide (i = j))) m
  | .str i, .str j => R (.bl (if neg then !decide (i = j) else decide (i = j))) m
  | .bl i, .bl j => R (.bl (if neg then !decide (i = j) else decide (i = j))) m
  | _, _ => False
theorem bEq {K} : BinD K rEq (oEq false) := by
  intro x y v w F G m H R Q p1 p2 hh ho hk
  unfold oEq at ho
  split at ho
  · cases p1; cases p2
    refine ⟨rfl, hk _ _ _ _ _ ho (Same.refl _) hh ?_⟩
    rw [show decide (V.int _ = V.int _) = decide (_ = _) from decide_eq_decide.mpr ⟨fun e => V.int.inj e, fun e => by rw [e]⟩]
    exact .bl _
  · cases p1; cases p2
    refine ⟨rfl, hk _ _ _ _ _ ho (Same.refl _) hh ?_⟩
    rw [show decide (V.str _ = V.str _) = decide (_ = _) from decide_eq_decide.mpr ⟨fun e => V.str.inj e, fun e => by rw [e]⟩]
    exact .bl _
  · cases p1; cases p2
    refine ⟨rfl, hk _ _ _ _ _ ho (Same.refl _) hh ?_⟩
    rw [show decide (V.bl _ = V.bl _) = decide (_ = _) from decide_eq_decide.mpr ⟨fun e => V.bl.inj e, fun e => by rw [e]⟩]
    exact .bl _
  · exact ho.elim
theorem bNe {K} : BinD K rNe (oEq true) := by
  intro x y v w F G m H R Q p1 p2 hh ho hk
  unfold oEq at ho
  split at ho
  · cases p1; cases p2
    refine ⟨rfl, hk _ _ _ _ _ ho (Same.refl _) hh ?_⟩
    rw [show decide (V.int _ = V.int _) = decide (_ = _) from decide_eq_decide.mpr ⟨fun e => V.int.inj e, fun e => by rw [e]⟩]
    exact .bl _
  · cases p1; cases p2
    refine ⟨rfl, hk _ _ _ _ _ ho (Same.refl _) hh ?_⟩
    rw [show decide (V.str _ = V.str _) = decide (_ = _) from decide_eq_decide.mpr ⟨fun e => V.str.inj e, fun e => by rw [e]⟩]
    exact .bl _
  · cases p1; cases p2
    refine ⟨rfl, hk _ _ _ _ _ ho (Same.refl _) hh ?_⟩
    rw [show decide (V.bl _ = V.bl _) = decide (_ = _) from decide_eq_decide.mpr ⟨fun e => V.bl.inj e, fun e => by rw [e]⟩]
    exact .bl _
  · exact ho.elim
abbrev dEq := dBin (oEq false)
abbrev dNe := dBin (oEq true)
theorem de_eq (ha : DE X a ta) (hb : DE X b tb) : DE X (.Compare a [.Eq] [b] pos) (dEq ta tb) := de_cmp op_eq bEq ha hb
theorem de_ne (ha : DE X a ta) (hb : DE X b tb) : DE X (.Compare a [.NotEq] [b] pos) (dNe ta tb) := de_cmp op_ne bNe ha hb
theorem de_lt (ha : DE X a ta) (hb : DE X b tb) : DE X (.Compare a [.Lt] [b] pos) (dLt ta tb) := de_cmp op_lt bLt ha hb
theorem de_le (ha : DE X a ta) (hb : DE X b tb) : DE X (.Compare a [.LtE] [b] pos) (dLe ta tb) := de_cmp op_le bLe ha hb
theorem de_gt (ha : DE X a ta) (hb : DE X b tb) : DE X (.Compare a [.Gt] [b] pos) (dGt ta tb) := de_cmp op_gt bGt ha hb
theorem de_ge (ha : DE X a ta) (hb : DE X b tb) : DE X (.Compare a [.GtE] [b] pos) (dGe ta tb) := de_cmp op_ge bGe ha hb
theorem dt_eq (ha : DE X a ta) (hb : DE X b tb) : DTs X (.Compare a [.Eq] [b] pos) (dTst (dEq ta tb)) := dt_cmp op_eq bEq ha hb
theorem dt_ne (ha : DE X a ta) (hb : DE X b tb) : DTs X (.Compare a [.NotEq] [b] pos) (dTst (dNe ta tb)) := dt_cmp op_ne bNe ha hb
theorem dt_lt (ha : DE X a ta) (hb : DE X b tb) : DTs X (.Compare a [.Lt] [b] pos) (dTst (dLt ta tb)) := dt_cmp op_lt bLt ha hb
theorem dt_le (ha : DE X a ta) (hb : DE X b tb) : DTs X (.Compare a [.LtE] [b] pos) (dTst (dLe ta tb)) := dt_cmp op_le bLe ha hb
theorem dt_gt (ha : DE X a ta) (hb : DE X b tb) : DTs X (.Compare a [.Gt] [b] pos) (dTst (dGt ta tb)) := dt_cmp op_gt bGt ha hb
theorem dt_ge (ha : DE X a ta) (hb : DE X b tb) : DTs X (.Compare a [.GtE] [b] pos) (dTst (dGe ta tb)) := dt_cmp op_ge bGe ha hb
/-- is None -/
def oIsN (neg : Bool) : D → D → M → (D → M → Prop) → Prop := fun x y m R => match y with
  | .non => R (.bl (match x with | .non => !neg | _ => neg)) m
  | _ => False
theorem bIsN {K} : BinD K (fun x y H Q => y = .non ∧ Q (.bl (decide (x = .non))) H) (oIsN false) := by
  intro x y v w F G m H R Q p1 p2 hh ho hk
  unfold oIsN at ho
  split at ho
  · cases p2
    refine ⟨rfl, hk _ _ _ _ _ ho (Same.refl _) hh ?_⟩
    cases p1 <;> exact .bl _
  · exact ho.elim
theorem bNotN {K} : BinD K (fun x y H Q => y = .non ∧ Q (.bl (!decide (x = .non))) H) (oIsN true) := by
  intro x y v w F G m H R Q p1 p2 hh ho hk
  unfold oIsN at ho
  split at ho
  · cases p2
    refine ⟨rfl, hk _ _ _ _ _ ho (Same.refl _) hh ?_⟩
    cases p1 <;> exact .bl _
  · exact ho.elim
theorem dt_isN (ha : DE X a ta) (hb : DE X b tb) : DTs X (.Compare a [.Is] [b] pos) (dTst (dBin (oIsN false) ta tb)) := dt_cmp op_isN bIsN ha hb
theorem dt_notN (ha : DE X a ta) (hb : DE X b tb) : DTs X (.Compare a [.IsNot] [b] pos) (dTst (dBin (oIsN true) ta tb)) := dt_cmp op_notN bNotN ha hb
/-- unary minus -/
def dNeg (t : DT) : DT := fun ds m R => t ds m fun x m1 => match x with
  | .int i => R (.int (-i)) m1
  | _ => False
theorem de_neg (ha : DE X a ta) : DE X (.UnaryOp .USub a pos) (dNeg ta) := pe_imp (pe_un un_neg ha) fun σ H Q ⟨ds, m, F, G, R, he, hh, ht, hk⟩ => by
  refine ⟨ds, m, F, G, _, he, hh, ht, fun d m' v F' H' r s hh' p => ?_⟩
  cases d with
  | int i =>
    cases p
    exact ⟨i, rfl, hk _ _ _ _ _ r s hh' (.int _)⟩
  | _ => exact r.elim

/-! ### and, or, not -/
variable {tA tB : DTt} {rest : List Expr}
def dAndT (t u : DTt) : DTt := fun ds m R => t ds m fun c m1 => if c = true then u ds m1 R else R false m1
def dOrT (t u : DTt) : DTt := fun ds m R => t ds m fun c m1 => if c = true then R true m1 else u ds m1 R
def dNotT (t : DTt) : DTt := fun ds m R => t ds m fun c m1 => R (!c) m1
theorem dw_and1 (ha : DTs X a tA) : PW X (.BoolOp .And [a] pos) (LT X.K tA) := pw_and1 ha
theorem dw_or1 (ha : DTs X a tA) : PW X (.BoolOp .Or [a] pos) (LT X.K tA) := pw_or1 ha
theorem dw_and (ha : DTs X a tA) (hb : PW X (.BoolOp .And (b :: rest) pos) (LT X.K tB)) : PW X (.BoolOp .And (a :: b :: rest) pos) (LT X.K (dAndT tA tB)) := pw_imp (pw_and ha hb) fun σ H Q ⟨ds, m, F, G, R, he, hh, ht, hk⟩ => by
  refine ⟨ds, m, F, G, _, he, hh, ht, fun c m1 F1 H1 r1 s1 h1 => ?_⟩
  cases c with
  | true => exact ⟨ds, m1, F1, G, _, he.mono s1, h1, r1, fun c' m2 F2 H2 r2 s2 h2 => hk c' m2 F2 H2 r2 (s1.trans s2) h2⟩
  | false => exact hk false m1 F1 H1 r1 s1 h1
theorem dw_or (ha : DTs X a tA) (hb : PW X (.BoolOp .Or (b :: rest) pos) (LT X.K tB)) : PW X (.BoolOp .Or (a :: b :: rest) pos) (LT X.K (dOrT tA tB)) := pw_imp (pw_or ha hb) fun σ H Q ⟨ds, m, F, G, R, he, hh, ht, hk⟩ => by
  refine ⟨ds, m, F, G, _, he, hh, ht, fun c m1 F1 H1 r1 s1 h1 => ?_⟩
  cases c with
  | false => exact ⟨ds, m1, F1, G, _, he.mono s1, h1, r1, fun c' m2 F2 H2 r2 s2 h2 => hk c' m2 F2 H2 r2 (s1.trans s2) h2⟩
  | true => exact hk true m1 F1 H1 r1 s1 h1
theorem dt_not (ha : DTs X a tA) : DTs X (.UnaryOp .Not a pos) (dNotT tA) := pt_imp (pt_not ha) fun σ H Q ⟨ds, m, F, G, R, he, hh, ht, hk⟩ =>
  ⟨ds, m, F, G, _, he, hh, ht, fun c m1 F1 H1 r1 s1 h1 => hk (!c) m1 F1 H1 r1 s1 h1⟩
def dAndV (ta tb : DT) : DT := fun ds m R => ta ds m fun x m1 => match x with
  | .bl c => if c = true then tb ds m1 R else R (.bl false) m1
  | _ => False
def dOrV (ta tb : DT) : DT := fun ds m R => ta ds m fun x m1 => match x with
  | .bl c => if c = true then R (.bl true) m1 else tb ds m1 R
  | _ => False
def dNotV (ta : DT) : DT := fun ds m R => ta ds m fun x m1 => match x with
  | .bl c => R (.bl (!c)) m1
  | _ => False
theorem de_one {op} (h : DE X a ta) : DE X (.BoolOp op [a] pos) ta := pe_one h
theorem de_and (ha : DE X a ta) (hb : DE X (.BoolOp .And (b :: rest) pos) tb) : DE X (.BoolOp .And (a :: b :: rest) pos) (dAndV ta tb) := pe_imp (pe_and ha hb) fun σ H Q ⟨ds, m, F, G, R, he, hh, ht, hk⟩ => by
  refine ⟨ds, m, F, G, _, he, hh, ht, fun d m1 v F1 H1 r1 s1 h1 p1 => ?_⟩
  cases d with
  | bl c =>
    cases p1
    refine ⟨c, rfl, ?_⟩
    cases c with
    | true => exact ⟨ds, m1, F1, G, _, he.mono s1, h1, r1, hk.mono s1⟩
    | false => exact hk _ m1 _ F1 H1 r1 s1 h1 (.bl false)
  | _ => exact r1.elim
theorem de_or (ha : DE X a ta) (hb : DE X (.BoolOp .Or (b :: rest) pos) tb) : DE X (.BoolOp .Or (a :: b :: rest) pos) (dOrV ta tb) := pe_imp (pe_or ha hb) fun σ H Q ⟨ds, m, F, G, R, he, hh, ht, hk⟩ => by
  refine ⟨ds, m, F, G, _, he, hh, ht, fun d m1 v F1 H1 r1 s1 h1 p1 => ?_⟩
  cases d with
  | bl c =>
    cases p1
    refine ⟨c, rfl, ?_⟩
    cases c with
    | false => exact ⟨ds, m1, F1, G, _, he.mono s1, h1, r1, hk.mono s1⟩
    | true => exact hk _ m1 _ F1 H1 r1 s1 h1 (.bl true)
  | _ => exact r1.elim
theorem de_not (ha : DE X a ta) : DE X (.UnaryOp .Not a pos) (dNotV ta) := pe_imp (pe_not ha) fun σ H Q ⟨ds, m, F, G, R, he, hh, ht, hk⟩ => by
  refine ⟨ds, m, F, G, _, he, hh, ht, fun d m1 v F1 H1 r1 s1 h1 p1 => ?_⟩
  cases d with
  | bl c =>
    cases p1
    exact ⟨c, rfl, hk _ m1 _ F1 H1 r1 s1 h1 (.bl _)⟩
  | _ => exact r1.elim
def dIfE (t : DTt) (ta tb : DT) : DT := fun ds m R => t ds m fun c m1 => if c = true then ta ds m1 R else tb ds m1 R
theorem de_if {c : Expr} (hc : DTs X c tA) (ha : DE X a ta) (hb : DE X b tb) : DE X (.IfExp c a b pos) (dIfE tA ta tb) := pe_imp (pe_ifExp hc ha hb) fun σ H Q ⟨ds, m, F, G, R, he, hh, ht, hk⟩ => by
  refine ⟨ds, m, F, G, _, he, hh, ht, fun c m1 F1 H1 r1 s1 h1 => ?_⟩
  cases c with
  | true => exact ⟨ds, m1, F1, G, _, he.mono s1, h1, r1, hk.mono s1⟩
  | false => exact ⟨ds, m1, F1, G, _, he.mono s1, h1, r1, hk.mono s1⟩

/-! ### argument lists, tuples, lists -/
variable {es : List Expr} {n : Nat} {t : DTa}
def dNil : DTa := fun _ m R => R [] m
def dCons (ta : DT) (tr : DTa) : DTa := fun ds m R => ta ds m fun x m1 => tr ds m1 fun xs m2 => R (x :: xs) m2
theorem da_nil : DA X [] 0 dNil := pa_imp pa_nil fun σ H Q ⟨ds, m, F, G, R, he, hh, ht, hk⟩ => hk [] m [] F H ht rfl (Same.refl _) hh .nil
theorem da_cons (ha : DE X a ta) (hr : DA X es n t) (hs : starEach (a :: es) X.env = (false, eval a X.env) :: starEach es X.env := by rfl) : DA X (a :: es) (n + 1) (dCons ta t) := pa_imp (pa_cons ha hr hs) fun σ H Q ⟨ds, m, F, G, R, he, hh, ht, hk⟩ =>
  ⟨ds, m, F, G, _, he, hh, ht, fun x m1 v F1 H1 r1 s1 h1 p1 => ⟨ds, m1, F1, G, _, he.mono s1, h1, r1, fun xs m2 vs F2 H2 r2 hl s2 h2 p2 =>
    hk (x :: xs) m2 (v :: vs) F2 H2 r2 (by rw [List.length_cons, hl]) (s1.trans s2) h2 (.cons (Rep.mono s2 _ _ p1) p2)⟩⟩
def dTup (t : DTa) : DT := fun ds m R => t ds m fun xs m1 => R (.tup xs) m1
def dLst (t : DTa) : DT := fun ds m R => t ds m fun xs m1 => R (.lst xs) m1
theorem fin_tup {K : PySem.W.Frag} {G : Gh} {F : Hp} {m : M} {H : Hp} {R : D → M → Prop} {Q : VK} {xs : List D} {vs : List V} (hh : HeapOk K G F m H) (p : Reps K F xs vs) (r : R (.tup xs) m) (hk : Fin K G F R Q) : ∀ q, H q = none → Q (.ref q) (upd H q (.tup vs)) := fun q hq => by
  obtain ⟨s, h2⟩ := hh.new (o := .tup vs) hq
  exact hk _ m _ _ _ r s h2 (.tup upd_same (Reps.mono s _ _ p))
theorem fin_lst {K : PySem.W.Frag} {G : Gh} {F : Hp} {m : M} {H : Hp} {R : D → M → Prop} {Q : VK} {xs : List D} {vs : List V} (hh : HeapOk K G F m H) (p : Reps K F xs vs) (r : R (.lst xs) m) (hk : Fin K G F R Q) : ∀ q, H q = none → Q (.ref q) (upd H q (.lst vs)) := fun q hq => by
  obtain ⟨s, h2⟩ := hh.new (o := .lst vs) hq
  exact hk _ m _ _ _ r s h2 (.lst (.inl (.inl upd_same)) (Reps.mono s _ _ p))
theorem de_tup {k} (h : DA X es n t) (hn : n ≤ 1000 := by decide) : DE X (.Tuple es k pos) (dTup t) := pe_imp (pe_tup h) fun σ H Q ⟨ds, m, F, G, R, he, hh, ht, hk⟩ =>
  ⟨ds, m, F, G, _, he, hh, ht, fun xs m1 vs F1 H1 r1 hl s1 h1 p1 => ⟨by
    rw [p1.length, hl]
    exact Nat.le_of_lt (small1000 hn), fin_tup h1 p1 r1 (hk.mono s1)⟩⟩
theorem de_lst (h : DA X es n t) (hn : n ≤ 1000 := by decide) : DE X (.List es pos) (dLst t) := pe_imp (pe_lst h) fun σ H Q ⟨ds, m, F, G, R, he, hh, ht, hk⟩ =>
  ⟨ds, m, F, G, _, he, hh, ht, fun xs m1 vs F1 H1 r1 hl s1 h1 p1 => ⟨by
    rw [p1.length, hl]
    exact Nat.le_of_lt (small1000 hn), fin_lst h1 p1 r1 (hk.mono s1)⟩⟩
end
end K23
/-! the data layer's rules: subscripts, slices, calls, built-ins -/
namespace K23
open PySem PySem.Spec PyProof.Rows L2

/-! ### subscripts -/
def oAt {α : Type} (k : α → Prop) : Option α → Prop
  | some d => k d
  | none => False
def oIx : D → D → M → (D → M → Prop) → Prop := fun x y m R => match x, y with
  | .tup xs, .int i => oAt (fun d => R d m) (atI xs i)
  | .lst xs, .int i => oAt (fun d => R d m) (atI xs i)
  | .ktup xs, .int i => oAt (fun d => R d m) (atI xs i)
  | .str z, .int i => z.length ≤ sizeLine ∧ oAt (fun c => R (.str ⟨#[c]⟩) m) (atI z.cps.toList i)
  | _, _ => False
theorem oAt_inv {α : Type} {k : α → Prop} {o : Option α} (h : oAt k o) : ∃ d, o = some d ∧ k d := by
  cases o with
  | none => exact h.elim
  | some d => exact ⟨d, rfl, h⟩
theorem atI_rep {K : PySem.W.Frag} {F : Hp} {xs : List D} {vs : List V} {i : Int} {d : D} (r : Reps K F xs vs) (h : atI xs i = some d) : ∃ v, atI vs i = some v ∧ Rep K F d v := by
  unfold atI at h ⊢
  rw [r.length]
  cases e : ixN xs.length i with
  | none => rw [e] at h; cases h
  | some j =>
    rw [e] at h
    exact r.get h
theorem bIx {K : PySem.W.Frag} : BinD K (rIx K) oIx := by
  intro x y v w F G m H R Q p1 p2 hh ho hk
  unfold oIx at ho
  split at ho
  · cases p1 with
    | tup s r =>
      cases p2
      obtain ⟨d, e, q⟩ := oAt_inv ho
      obtain ⟨v', e2, r2⟩ := atI_rep r e
      exact .inr (.inl ⟨_, _, _, v', rfl, rfl, Same.seqT hh.sub s, e2, hk _ _ _ _ _ q (Same.refl _) hh r2⟩)
  · cases p1 with
    | lst s r =>
      cases p2
      obtain ⟨d, e, q⟩ := oAt_inv ho
      obtain ⟨v', e2, r2⟩ := atI_rep r e
      exact .inl ⟨_, _, _, v', rfl, rfl, hh.sub.seq s, e2, hk _ _ _ _ _ q (Same.refl _) hh r2⟩
  · cases p1 with
    | ktup s r =>
      cases p2
      obtain ⟨d, e, q⟩ := oAt_inv ho
      obtain ⟨v', e2, r2⟩ := atI_rep r e
      exact .inr (.inl ⟨_, _, _, v', rfl, rfl, sqT_k s, e2, hk _ _ _ _ _ q (Same.refl _) hh r2⟩)
  · cases p1; cases p2
    obtain ⟨c, e, q⟩ := oAt_inv ho.2
    exact .inr (.inr ⟨_, _, c, rfl, rfl, ho.1, e, hk _ _ _ _ _ q (Same.refl _) hh (.str _)⟩)
  · exact ho.elim
section
variable {X : Cx} {a b : Expr} {ta tb : DT} {pos : Pos}
theorem de_ix (ha : DE X a ta) (hb : DE X b tb) (hs : PlainIx b := by exact fun _ _ => rfl) : DE X (.Subscript a b pos) (dBin oIx ta tb) := pe_imp (pe_ix ix_seq ha hb hs) fun _ _ _ h => bin_ok bIx h
/-- .. by a written place -/
def dIxN (k : Nat) (ta : DT) : DT := fun ds m R => ta ds m fun x m1 => match x with
  | .tup xs => oAt (fun d => R d m1) xs[k]?
  | .lst xs => oAt (fun d => R d m1) xs[k]?
  | .ktup xs => oAt (fun d => R d m1) xs[k]?
  | _ => False
theorem de_ixN {k : Nat} {j pos'} (ha : DE X a ta) (hs : PlainIx (.Constant (.int (k : Int)) j pos') := by exact fun _ _ => rfl) : DE X (.Subscript a (.Constant (.int (k : Int)) j pos') pos) (dIxN k ta) := pe_imp (pe_ix ix_seq ha de_int hs) fun σ H Q ⟨ds, m, F, G, R, he, hh, ht, hk⟩ => by
  refine ⟨ds, m, F, G, _, he, hh, ht, fun x m1 v F1 H1 r1 s1 h1 p1 => ⟨ds, m1, F1, G, fun y m2 => y = .int (k : Int) ∧ m2 = m1, he.mono s1, h1, ⟨rfl, rfl⟩, fun y m2 w F2 H2 ⟨ey, em⟩ s2 h2 p2 => ?_⟩⟩
  subst ey em
  refine bIx x _ v w F2 G _ H2 R Q (Rep.mono s2 _ _ p1) p2 h2 ?_ (hk.mono (s1.trans s2))
  cases x with
  | tup xs =>
    obtain ⟨d, e, q⟩ := oAt_inv r1
    show oAt _ (atI xs (k : Int))
    rw [atI_nat e]
    exact q
  | lst xs =>
    obtain ⟨d, e, q⟩ := oAt_inv r1
    show oAt _ (atI xs (k : Int))
    rw [atI_nat e]
    exact q
  | ktup xs =>
    obtain ⟨d, e, q⟩ := oAt_inv r1
    show oAt _ (atI xs (k : Int))
    rw [atI_nat e]
    exact q
  | _ => exact r1.elim

/-! ### slices -/
/-- a part of a slice: the value of an int -/
abbrev DTo := DEnv → M → (Option Int → M → Prop) → Prop
def LO (K : PySem.W.Frag) (t : DTo) : TO := fun σ H Q => ∃ ds m F G R, ERep K F ds σ ∧ HeapOk K G F m H ∧ t ds m R ∧ ∀ o m' F' H', R o m' → Same F F' → HeapOk K G F' m' H' → Q o H'
abbrev DO (X : Cx) (e : Option Expr) (t : DTo) : Prop := PO X e (LO X.K t)
theorem po_imp {e : Option Expr} {t t' : TO} (h : PO X e t) (w : ∀ σ H Q, t' σ H Q → t σ H Q) : PO X e t' := ⟨fun pins s σ H Q I hw => h.run pins s σ H Q I (w σ H Q hw)⟩
def dNoPart : DTo := fun _ m R => R none m
def dPart (t : DT) : DTo := fun ds m R => t ds m fun x m1 => match x with
  | .int i => R (some i) m1
  | _ => False
theorem do_none : DO X none dNoPart := po_imp po_none fun σ H Q ⟨ds, m, F, G, R, he, hh, ht, hk⟩ => hk none m F H ht (Same.refl _) hh
theorem do_some (h : DE X a ta) : DO X (some a) (dPart ta) := po_imp (po_some h) fun σ H Q ⟨ds, m, F, G, R, he, hh, ht, hk⟩ => by
  refine ⟨ds, m, F, G, _, he, hh, ht, fun x m1 v F1 H1 r1 s1 h1 p1 => ?_⟩
  cases x with
  | int i =>
    cases p1
    exact ⟨i, rfl, hk _ m1 F1 H1 r1 s1 h1⟩
  | _ => exact r1.elim
def cutD (xs : List D) (lo hi : Option Int) : List D := (xs.drop (HT.sIx xs.length 0 lo)).take (HT.sIx xs.length xs.length hi - HT.sIx xs.length 0 lo)
theorem cut_rep {K : PySem.W.Frag} {F : Hp} {xs : List D} {vs : List V} {lo hi : Option Int} (r : Reps K F xs vs) : Reps K F (cutD xs lo hi) (cutV vs lo hi) := by
  unfold cutD cutV
  rw [r.length]
  exact (r.drop _).take _
def dSl (t : DT) (tl th : DTo) : DT := fun ds m R => t ds m fun x m1 => tl ds m1 fun lo m2 => th ds m2 fun hi m3 => match x with
  | .lst xs => R (.lst (cutD xs lo hi)) m3
  | .tup xs => ¬ (HT.sIx xs.length 0 lo = 0 ∧ HT.sIx xs.length xs.length hi = xs.length) ∧ R (.tup (cutD xs lo hi)) m3
  | .str z => z.length ≤ sizeLine ∧ R (.str (cutS z lo hi)) m3
  | _ => False
theorem de_sl {lo hi : Option Expr} {tl th : DTo} {p2 : Pos} (ha : DE X a ta) (hl : DO X lo tl) (hh : DO X hi th) : DE X (.Subscript a (.Slice lo hi none p2) pos) (dSl ta tl th) := pe_imp (pe_slice (sl_list.or (sl_tup.or sl_str)) ha hl hh) fun σ H Q ⟨ds, m, F, G, R, he, hh, ht, hk⟩ => by
  refine ⟨ds, m, F, G, _, he, hh, ht, fun x m1 v F1 H1 r1 s1 h1 p1 => ⟨ds, m1, F1, G, _, he.mono s1, h1, r1, fun lo m2 F2 H2 r2 s2 h2 => ⟨ds, m2, F2, G, _, (he.mono s1).mono s2, h2, r2, fun hi m3 F3 H3 r3 s3 h3 => ?_⟩⟩⟩
  have p3 := Rep.mono (s2.trans s3) _ _ p1
  have hk3 := hk.mono (s1.trans (s2.trans s3))
  cases x with
  | lst xs =>
    cases p3 with
    | lst s r => exact .inl ⟨_, _, rfl, h3.sub.seq s, fin_lst h3 (cut_rep r) r3 hk3⟩
  | tup xs =>
    cases p3 with
    | tup s r => exact .inr (.inl ⟨_, _, rfl, Same.seqT h3.sub s, by rw [r.length]; exact r3.1, fin_tup h3 (cut_rep r) r3.2 hk3⟩)
  | str z =>
    cases p3
    exact .inr (.inr ⟨z, rfl, r3.1, hk3 _ m3 _ F3 H3 r3.2 (Same.refl _) h3 (.str _)⟩)
  | _ => exact r3.elim
/-- xs[::-1] -/
def dRev (t : DT) : DT := fun ds m R => t ds m fun x m1 => match x with
  | .lst xs => R (.lst xs.reverse) m1
  | _ => False
theorem de_rev {k : Nat} {p1 p2 p3 : Pos} (ha : DE X a ta) : DE X (.Subscript a (.Slice none none (some (.UnaryOp .USub (.Constant (.int 1) k p1) p2)) p3) pos) (dRev ta) := pe_imp (pe_revL ha) fun σ H Q ⟨ds, m, F, G, R, he, hh, ht, hk⟩ => by
  refine ⟨ds, m, F, G, _, he, hh, ht, fun x m1 v F1 H1 r1 s1 h1 p1 => ?_⟩
  cases x with
  | lst xs =>
    cases p1 with
    | lst s r => exact ⟨_, _, rfl, h1.sub.seq s, fin_lst h1 r.reverse r1 (hk.mono s1)⟩
  | _ => exact r1.elim

/-! ### + of lists, tuples, texts -/
theorem op_catL : OpR X (binaryOp .Add) (fun x y H Q => ∃ l b xs zs, x = .ref l ∧ y = .ref b ∧ SqL X.K H l xs ∧ SqL X.K H b zs ∧ xs.length + zs.length ≤ sizeLine ∧ ∀ p, H p = none → Q (.ref p) (upd H p (.lst (xs ++ zs)))) := by
  intro pins s σ H x y v u Q I rx ry h
  obtain ⟨l, b, xs, zs, rfl, rfl, hH, hB, hz, q⟩ := h
  cases rx
  cases ry
  obtain ⟨its, r, ⟨o, n, e, c1, c2, c3⟩, z⟩ := I.list hH
  obtain ⟨its2, r2, ⟨o2, n2, e2, d1, d2, d3⟩, z2⟩ := I.list hB
  have hl := r.length
  have hl2 := r2.length
  obtain ⟨oc, od, dt, sl⟩ := o
  obtain ⟨oc2, od2, dt2, sl2⟩ := o2
  simp only at c1 c2 c3 d1 d2 d3
  subst c1 c2 c3 d1 d2 d3
  refine concat_meets ⟨_, e, rfl⟩ ⟨_, e2, rfl⟩ noFill_list_add seq_list_add PySem.F.slot_list_add PySem.F.entry_list_add (PySem.F.args_list_add_2 _ _) (list_addW l b its.toArray its2.toArray n n2 none none sl sl2 (by rw [List.size_toArray, List.size_toArray]; omega)) ⟨e, e2, ?_⟩
  have ea : its.toArray ++ its2.toArray = (its ++ its2).toArray := by simp
  rw [ea]
  exact ⟨.ref _, _, I.lnew (t' := s.toks) (r.append r2) (by rw [List.length_append]; omega), rfl, q _ I.fresh⟩
/-- + of any kind -/
def oPlus : D → D → M → (D → M → Prop) → Prop := fun x y m R => match x, y with
  | .lst xs, .lst ys => xs.length + ys.length ≤ 100000 ∧ R (.lst (xs ++ ys)) m
  | .tup xs, .tup ys => xs ≠ [] ∧ ys ≠ [] ∧ xs.length + ys.length ≤ 100000 ∧ R (.tup (xs ++ ys)) m
  | .str u, .str v => u.length + v.length ≤ 100000 ∧ R (.str (u ++ v)) m
  | _, _ => False
def rPlusL (K : PySem.W.Frag) : R2 := fun x y H Q => ∃ l b xs zs, x = .ref l ∧ y = .ref b ∧ SqL K H l xs ∧ SqL K H b zs ∧ xs.length + zs.length ≤ sizeLine ∧ ∀ p, H p = none → Q (.ref p) (upd H p (.lst (xs ++ zs)))
def rPlusS : R2 := fun x y H Q => ∃ i j, x = .str i ∧ y = .str j ∧ i.length + j.length ≤ sizeLine ∧ Q (.str (i ++ j)) H
theorem line100 {n : Nat} (h : n ≤ 100000) : n ≤ sizeLine := Nat.le_trans h (by decide)
theorem de_plus (ha : DE X a ta) (hb : DE X b tb) : DE X (.BinOp a .Add b pos) (dBin oPlus ta tb) := by
  have hr : OpR X (binaryOp .Add) (fun x y H Q => rPlusL X.K x y H Q ∨ (fun x y H Q => rCatT X.K x y H Q ∨ rPlusS x y H Q) x y H Q) := op_catL.or (op_catT.or op_add_str)
  refine de_bin hr ?_ ha hb
  intro x y v w F G m H R Q p1 p2 hh ho hk
  unfold oPlus at ho
  split at ho
  · cases p1 with
    | lst s1 r1 =>
      cases p2 with
      | lst s2 r2 =>
        exact .inl ⟨_, _, _, _, rfl, rfl, hh.sub.seq s1, hh.sub.seq s2, by
          rw [r1.length, r2.length]
          exact line100 ho.1, fin_lst hh (r1.append r2) ho.2 hk⟩
  · cases p1 with
    | tup s1 r1 =>
      cases p2 with
      | tup s2 r2 =>
        obtain ⟨n1, n2, hz, q⟩ := ho
        refine .inr (.inl ⟨_, _, _, _, rfl, rfl, Same.seqT hh.sub s1, Same.seqT hh.sub s2, fun e => ?_, ?_, ?_⟩)
        · rw [e] at r1
          cases r1
          exact n1 rfl
        · rw [r1.length, r2.length]
          exact line100 hz
        · exact ⟨fun e => by
            rw [e] at r2
            cases r2
            exact (n2 rfl).elim, fun _ => fin_tup hh (r1.append r2) q hk⟩
  · cases p1; cases p2
    exact .inr (.inr ⟨_, _, rfl, rfl, line100 ho.1, hk _ _ _ _ _ ho.2 (Same.refl _) hh (.str _)⟩)
  · exact ho.elim
end
end K23
/-! the data layer's rules: calls of defs and of built-ins, deep == and in -/
namespace K23
open PySem PySem.Spec PyProof.Rows L2

/-! ### a def's promise, as data -/
abbrev DSp := List D → M → (D → M → Prop) → Prop
def spD (K : PySem.W.Frag) (n : Nat) (sp : DSp) : Sp := fun vs H Q _ => ∃ xs m F G R, Reps K F xs vs ∧ xs.length = n ∧ HeapOk K G F m H ∧ m.ow = none ∧ sp xs m R ∧ Fin K G F R Q
/-- a def that can be called: its name, how many arguments are written, its level, its promise -/
structure Cal (P : Program) (w : World) (K : PySem.W.Frag) (mg : Str → Option Value) (base : Heap) (k : Nat) (x : Str) (n : Nat) (sp : DSp) : Prop where
  ex : ∃ (f : Addr) (fd : FuncData) (ps : List Str) (N : Nat) (dd : List D) (dvs : List V) (ds : List Value) (sp0 : DSp), FnOk P w K mg base CX0 k f fd ps (spD K N sp0) ∧ mg x = some (.ref f) ∧ PySem.W.keepIn K (.ref f) = true ∧ Binds K fd ps ds ∧ Vals dvs ds ∧
    (∀ F, Reps K F dd dvs) ∧ N = n + dd.length ∧ ∀ xs m R, xs.length = n → sp xs m R → sp0 (xs ++ dd) m R
section
variable {X : Cx} {a b : Expr} {ta tb : DT} {pos : Pos} {es : List Expr} {n : Nat} {t : DTa}
def dCall (sp : DSp) (t : DTa) : DT := fun ds m R => t ds m fun xs m1 => sp xs ⟨m1.dk, none⟩ fun d m2 => R d ⟨m2.dk, m1.ow⟩
theorem call_ok {sp sp0 : DSp} {dd : List D} {dvs : List V} {N : Nat} (hd : ∀ F, Reps X.K F dd dvs) (hn : N = n + dd.length) (hs : ∀ xs m R, xs.length = n → sp xs m R → sp0 (xs ++ dd) m R) {σ : L2.St} {H : Hp} {Q : VK} (h : LE X.K (dCall sp t) σ H Q) : tCall (spD X.K N sp0) dvs E0 (LA X.K n t) σ H Q := by
  obtain ⟨ds, m, F, G, R, he, hh, ht, hk⟩ := h
  refine ⟨ds, m, F, G, _, he, hh, ht, fun xs m1 vs F1 H1 r1 hl s1 h1 p1 => ?_⟩
  refine ⟨xs ++ dd, ⟨m1.dk, none⟩, F1, ⟨H1, F1, m1.dk⟩, _, p1.append (hd F1), by rw [List.length_append, hl, hn], h1.rebase, rfl, hs xs _ _ hl r1, fun d m2 v F2 H2 r2 s2 h2 p2 => ?_⟩
  exact hk d _ v F2 H2 r2 (s1.trans s2) (h1.unbase h2) p2
theorem de_call {k j : Nat} {x : Str} {p : Pos} {e : Expr} {sp : DSp} (C : Cal X.prog X.w X.K X.mg X.base k x n sp) (hr : Room j X.A) (hkj : k ≤ j) (ha : DA X (e :: es) n t) (hg : Gl X x := by rfl) (hdb : (x == ("__debug__" : Str)) = false := by decide)
    (he : starEach (e :: es) X.env = (false, eval e X.env) :: starEach es X.env := by rfl) (hpl : (backTo pos (starEach es X.env)).any (·.1) = false := by rfl) : DE X (.Call (.Name x p) (e :: es) [] pos) (dCall sp t) := by
  obtain ⟨f, fd, ps, N, dd, dvs, ds, sp0, hf, hm, hk, hb, hd, hr2, hn, hs⟩ := C.ex
  exact pe_imp (pe_call hf (hr.mono hkj) hg hm hk hb hd pass0 ha hdb he hpl) fun _ _ _ h => call_ok hr2 hn hs h

/-! ### built-ins -/
/-- a built-in's rule, as data -/
def CallD (K : PySem.W.Frag) (r : List V → Hp → VK → Prop) (o : DSp) : Prop := ∀ xs vs F G m H R Q, Reps K F xs vs → HeapOk K G F m H → o xs m R → Fin K G F R Q → r vs H Q
def dCB (o : DSp) (t : DTa) : DT := fun ds m R => t ds m fun xs m1 => o xs m1 R
theorem cb_ok {r : List V → Hp → VK → Prop} {o : DSp} (ho : CallD X.K r o) {σ : L2.St} {H : Hp} {Q : VK} (h : LE X.K (dCB o t) σ H Q) : tCB r (LA X.K n t) σ H Q := by
  obtain ⟨ds, m, F, G, R, he, hh, ht, hk⟩ := h
  exact ⟨ds, m, F, G, _, he, hh, ht, fun xs m1 vs F1 H1 r1 hl s1 h1 p1 => ho xs vs F1 G m1 H1 R Q p1 h1 r1 (hk.mono s1)⟩
theorem de_callB {id : String} {x : Str} {p : Pos} {e : Expr} {r : List V → Hp → VK → Prop} {o : DSp} (hc : CallR X (.builtin id) r) (ho : CallD X.K r o) (hm : X.mg x = none) (ha : DA X (e :: es) n t) (hv : bootBuiltins x = some (.builtin id) := by decide +kernel) (hg : Gl X x := by rfl) (hn : x ≠ "__name__" := by decide) (hdb : (x == ("__debug__" : Str)) = false := by decide)
    (he : starEach (e :: es) X.env = (false, eval e X.env) :: starEach es X.env := by rfl) (hpl : (backTo pos (starEach es X.env)).any (·.1) = false := by rfl) : DE X (.Call (.Name x p) (e :: es) [] pos) (dCB o t) :=
  pe_imp (pe_callB hc hg hm hv ha hn hdb he hpl) fun _ _ _ h => cb_ok ho h
theorem de_callTy {T : String} {x : Str} {p : Pos} {e : Expr} {r : List V → Hp → VK → Prop} {o : DSp} (hc : CallR X (.type T) r) (ho : CallD X.K r o) (hm : X.mg x = none) (ha : DA X (e :: es) n t) (hv : bootBuiltins x = some (.type T) := by decide +kernel) (hg : Gl X x := by rfl) (hn : x ≠ "__name__" := by decide) (hdb : (x == ("__debug__" : Str)) = false := by decide)
    (he : starEach (e :: es) X.env = (false, eval e X.env) :: starEach es X.env := by rfl) (hpl : (backTo pos (starEach es X.env)).any (·.1) = false := by rfl) : DE X (.Call (.Name x p) (e :: es) [] pos) (dCB o t) :=
  pe_imp (pe_callTy hc hg hm hv ha hn hdb he hpl) fun _ _ _ h => cb_ok ho h
theorem reps1 {K : PySem.W.Frag} {F : Hp} {d : D} {vs : List V} (h : Reps K F [d] vs) : ∃ v, vs = [v] ∧ Rep K F d v := by
  cases h with
  | cons r t => cases t; exact ⟨_, rfl, r⟩
theorem reps2 {K : PySem.W.Frag} {F : Hp} {d e : D} {vs : List V} (h : Reps K F [d, e] vs) : ∃ v w, vs = [v, w] ∧ Rep K F d v ∧ Rep K F e w := by
  cases h with
  | cons r t =>
    obtain ⟨w, e, q⟩ := reps1 t
    rw [e]
    exact ⟨_, _, rfl, r, q⟩
/-- abs -/
def oAbs : DSp := fun xs m R => match xs with
  | [.int i] => R (.int (i.natAbs : Int)) m
  | _ => False
theorem cAbs {K : PySem.W.Frag} : CallD K (fun xs H Q => ∃ i, xs = [.int i] ∧ Q (.int (if i < 0 then -i else i)) H) oAbs := by
  intro xs vs F G m H R Q p hh ho hk
  unfold oAbs at ho
  split at ho
  · obtain ⟨v, rfl, q⟩ := reps1 p
    cases q
    refine ⟨_, rfl, ?_⟩
    rename_i i
    have e : (if i < 0 then -i else i) = (i.natAbs : Int) := by split <;> omega
    rw [e]
    exact hk _ m _ F H ho (Same.refl _) hh (.int _)
  · exact ho.elim
theorem de_abs {p : Pos} (hm : X.mg "abs" = none) (ha : DA X [a] 1 t) (hg : Gl X "abs" := by rfl) (he : starEach [a] X.env = (false, eval a X.env) :: starEach [] X.env := by rfl) : DE X (.Call (.Name "abs" p) [a] [] pos) (dCB oAbs t) := de_callB call_abs cAbs hm ha (by decide +kernel) hg (by decide) (by decide) he rfl
/-- len -/
def oLen : DSp := fun xs m R => match xs with
  | [.tup ys] => R (.int ys.length) m
  | [.lst ys] => R (.int ys.length) m
  | [.str z] => z.length ≤ sizeLine ∧ R (.int z.length) m
  | _ => False
theorem cLen {K : PySem.W.Frag} : CallD K (fun xs H Q => (∃ p ys, xs = [.ref p] ∧ (SqL K H p ys ∨ SqT K H p ys) ∧ Q (.int ys.length) H) ∨ ∃ z, xs = [.str z] ∧ z.length ≤ sizeLine ∧ Q (.int z.length) H) oLen := by
  intro xs vs F G m H R Q p hh ho hk
  unfold oLen at ho
  split at ho
  · obtain ⟨v, rfl, q⟩ := reps1 p
    cases q with
    | tup s r =>
      refine .inl ⟨_, _, rfl, .inr (Same.seqT hh.sub s), ?_⟩
      rw [r.length]
      exact hk _ m _ F H ho (Same.refl _) hh (.int _)
  · obtain ⟨v, rfl, q⟩ := reps1 p
    cases q with
    | lst s r =>
      refine .inl ⟨_, _, rfl, .inl (hh.sub.seq s), ?_⟩
      rw [r.length]
      exact hk _ m _ F H ho (Same.refl _) hh (.int _)
  · obtain ⟨v, rfl, q⟩ := reps1 p
    cases q
    exact .inr ⟨_, rfl, ho.1, hk _ m _ F H ho.2 (Same.refl _) hh (.int _)⟩
  · exact ho.elim
theorem de_len {p : Pos} (hm : X.mg "len" = none) (ha : DA X [a] 1 t) (hg : Gl X "len" := by rfl) (he : starEach [a] X.env = (false, eval a X.env) :: starEach [] X.env := by rfl) : DE X (.Call (.Name "len" p) [a] [] pos) (dCB oLen t) := de_callB (call_len_seq.or call_len_str) cLen hm ha (by decide +kernel) hg (by decide) (by decide) he rfl
/-- max of a list of ints -/
def oMax : DSp := fun xs m R => ∃ ns : List Int, xs = [.lst (ns.map D.int)] ∧ 0 < ns.length ∧ ∀ k, k ∈ ns → (∀ y, y ∈ ns → y ≤ k) → R (.int k) m
theorem cMax {K : PySem.W.Frag} : CallD K (rMax K) oMax := by
  intro xs vs F G m H R Q p hh ho hk
  obtain ⟨ns, rfl, hp, q⟩ := ho
  obtain ⟨v, rfl, z⟩ := reps1 p
  cases z with
  | lst s r =>
    rw [r.ints] at s
    exact ⟨_, ns, rfl, hh.sub.seq s, hp, fun k h1 h2 => hk _ m _ F H (q k h1 h2) (Same.refl _) hh (.int _)⟩
theorem de_max {p : Pos} (hc : X.calm = true) (hm : X.mg "max" = none) (ha : DA X [a] 1 t) (hg : Gl X "max" := by rfl) (he : starEach [a] X.env = (false, eval a X.env) :: starEach [] X.env := by rfl) : DE X (.Call (.Name "max" p) [a] [] pos) (dCB oMax t) := de_callB (cr_max hc) cMax hm ha (by decide +kernel) hg (by decide) (by decide) he rfl
/-- all of a list of truths -/
def oAll : DSp := fun xs m R => ∃ bs : List Bool, xs = [.lst (bs.map D.bl)] ∧ R (.bl (bs.all id)) m
theorem cAll {K : PySem.W.Frag} : CallD K (rAll K) oAll := by
  intro xs vs F G m H R Q p hh ho hk
  obtain ⟨ns, rfl, q⟩ := ho
  obtain ⟨v, rfl, z⟩ := reps1 p
  cases z with
  | lst s r =>
    rw [r.bls] at s
    exact ⟨_, ns, rfl, hh.sub.seq s, hk _ m _ F H q (Same.refl _) hh (.bl _)⟩
theorem de_all {p : Pos} (hc : X.calm = true) (hm : X.mg "all" = none) (ha : DA X [a] 1 t) (hg : Gl X "all" := by rfl) (he : starEach [a] X.env = (false, eval a X.env) :: starEach [] X.env := by rfl) : DE X (.Call (.Name "all" p) [a] [] pos) (dCB oAll t) := de_callB (cr_all hc) cAll hm ha (by decide +kernel) hg (by decide) (by decide) he rfl
/-- tuple of a list -/
def oTuple : DSp := fun xs m R => match xs with
  | [.lst ys] => R (.tup ys) m
  | _ => False
theorem cTuple {K : PySem.W.Frag} : CallD K (fun xs H Q => ∃ p ys, xs = [.ref p] ∧ ((SqL K H p ys ∧ ∀ l, H l = none → Q (.ref l) (upd H l (.tup ys))) ∨ (SqT K H p ys ∧ Q (.ref p) H))) oTuple := by
  intro xs vs F G m H R Q p hh ho hk
  unfold oTuple at ho
  split at ho
  · obtain ⟨v, rfl, q⟩ := reps1 p
    cases q with
    | lst s r => exact ⟨_, _, rfl, .inl ⟨hh.sub.seq s, fin_tup hh r ho hk⟩⟩
  · exact ho.elim
theorem de_tuple {p : Pos} (hm : X.mg "tuple" = none) (ha : DA X [a] 1 t) (hg : Gl X "tuple" := by rfl) (he : starEach [a] X.env = (false, eval a X.env) :: starEach [] X.env := by rfl) : DE X (.Call (.Name "tuple" p) [a] [] pos) (dCB oTuple t) := de_callTy call_tuple_of cTuple hm ha (by decide +kernel) hg (by decide) (by decide) he rfl
/-- a pair of ints -/
abbrev dPr (z : Int × Int) : D := .tup [.int z.1, .int z.2]
/-- not greater, as tuples go -/
def lexLe (x y : Int × Int) : Prop := x.1 < y.1 ∨ x.1 = y.1 ∧ x.2 ≤ y.2
/-- v is a tuple of these two ints -/
def PrAt (K : PySem.W.Frag) (H : Hp) (v : V) (z : Int × Int) : Prop := ∃ t, v = V.ref t ∧ H t = some (.tup [.int z.1, .int z.2])
/-- sorted of a list of pairs of ints -/
def rSortedPT (K : PySem.W.Frag) : List V → Hp → VK → Prop := fun vs H Q => ∃ (a : Addr) (xs : List V) (ps : List (Int × Int)) (F : Hp), vs = [V.ref a] ∧ SqL K H a xs ∧ Same F H ∧ Paired (PrAt K F) xs ps ∧
  ∀ ys qs p, Paired (PrAt K F) ys qs → qs.Perm ps → qs.Pairwise lexLe → H p = none → Q (.ref p) (upd H p (.lst ys))
theorem paired_mem {α β : Type} {F : α → β → Prop} : ∀ {xs : List α} {ys : List β}, Paired F xs ys → ∀ x ∈ xs, ∃ y ∈ ys, F x y
  | _, _, .nil, x, h => by cases h
  | _, _, .cons r t, x, h => by
    rcases List.mem_cons.mp h with e | h
    · rw [e]
      exact ⟨_, List.mem_cons_self, r⟩
    · obtain ⟨y, h1, h2⟩ := paired_mem t x h
      exact ⟨y, List.mem_cons_of_mem _ h1, h2⟩
theorem paired_map {α β : Type} {F : α → β → Prop} (k : α → β) : ∀ {xs : List α} {ys : List β}, Paired F xs ys → (∀ x y, F x y → k x = y) → xs.map k = ys
  | _, _, .nil, _ => rfl
  | _, _, .cons r t, h => by
    rw [List.map_cons, h _ _ r, paired_map k t h]
theorem paired_of_map {α β : Type} {F : α → β → Prop} (k : α → β) : ∀ {xs : List α}, (∀ x ∈ xs, F x (k x)) → Paired F xs (xs.map k)
  | [], _ => .nil
  | x :: xs, h => .cons (h x List.mem_cons_self) (paired_of_map k fun y hy => h y (List.mem_cons_of_mem _ hy))
theorem cr_sortedPT : CallR X (.builtin "sorted") (rSortedPT X.K) := by
  intro pins s σ H vs us Q I r h
  obtain ⟨a, xs, ps, F, rfl, hs, hF, hx, q⟩ := h
  classical
  let k : V → Int × Int := fun v => if h : ∃ z, PrAt X.K F v z then Classical.choose h else (0, 0)
  have hk : ∀ v z, PrAt X.K F v z → k v = z := fun v z hz => by
    have hex : ∃ z, PrAt X.K F v z := ⟨z, hz⟩
    have e : k v = Classical.choose hex := dif_pos hex
    obtain ⟨t, e1, h1⟩ := Classical.choose_spec hex
    obtain ⟨t', e2, h2⟩ := hz
    rw [e1] at e2
    cases e2
    have e3 := I.tuple_inj (Same.seqT hF h1) (Same.seqT hF h2)
    rw [e]
    simp only [List.cons.injEq, V.int.injEq, and_true] at e3
    exact Prod.ext e3.1 e3.2
  have hps : xs.map k = ps := paired_map k hx hk
  obtain ⟨its, rv, hl, hz⟩ := I.list hs
  obtain ⟨u, rfl, ru⟩ := vals1 r
  obtain rfl : u = Value.ref a := ru
  obtain ⟨e1, e2⟩ := refs_back rv fun x m => by
    obtain ⟨_, _, t, e, _⟩ := paired_mem hx x m
    exact ⟨t, e⟩
  refine SrtO.sorted_pairsO (k := fun u => k (backV u)) hl.isList (by rw [← rv.length]; exact hz) (fun v hv => ?_) fun h' d out h1 h2 kp hd hn => ?_
  · obtain ⟨t, rfl⟩ := e2 v hv
    have hm : V.ref t ∈ xs := by rw [e1]; exact List.mem_map.mpr ⟨_, hv, rfl⟩
    obtain ⟨z, _, hz⟩ := paired_mem hx _ hm
    have ez : k (.ref t) = z := hk _ _ hz
    obtain ⟨t', e, ht⟩ := hz
    cases e
    rw [← ez] at ht
    obtain ⟨its2, r2, ⟨o, ho, hc, n, hd⟩, _⟩ := I.tuple (Same.seqT hF ht)
    obtain ⟨u1, u2, rfl, ri, rj⟩ := vals2 r2
    obtain ⟨t1, rfl⟩ := ri
    obtain ⟨t2, rfl⟩ := rj
    exact ⟨t, o, t1, t2, n, rfl, ho, hc, hd⟩
  · have h3 : ∀ u ∈ out, ∃ a, u = Value.ref a := fun u hu => e2 u (h2.perm.mem_iff.mp hu)
    obtain ⟨n, hn⟩ := hn
    have hb : SrtO.Stb (ltP k) (out.map backV) xs := by
      rw [e1]
      exact SrtO.Stb.map (ltP_swo k) backV h2
    have hsr : SrtO.Srtd (ltP k) (out.map backV) := SrtO.srtd_map h1
    refine ⟨.ref d, upd H d (.lst (out.map backV)), I.laid (t' := s.toks) kp hd ⟨?_, out, n, vals_back h3, hn⟩, rfl, q _ ((out.map backV).map k) d (paired_of_map k fun x hx2 => ?_) ?_ ?_ (I.hok.fresh hd)⟩
    · rw [hb.len]
      exact hz
    · obtain ⟨z, _, hz⟩ := paired_mem hx x (hb.perm.mem_iff.mp hx2)
      rw [hk _ _ hz]
      exact hz
    · rw [← hps]
      exact hb.perm.map k
    · refine List.pairwise_map.mpr (hsr.imp fun {x y} h => ?_)
      have h2 := SrtO.lexB_no.mp h
      unfold lexLe
      omega
theorem prat_of {K : PySem.W.Frag} {F : Hp} : ∀ {ps : List (Int × Int)} {vs : List V}, Reps K F (ps.map dPr) vs → Paired (PrAt K F) vs ps
  | [], _, h => by cases h; exact .nil
  | p :: ps, _, h => by
    cases h with
    | cons r t =>
      refine .cons ?_ (prat_of t)
      cases r with
      | tup q z =>
        obtain ⟨v, w, e, z1, z2⟩ := reps2 z
        subst e
        cases z1
        cases z2
        exact ⟨_, rfl, q⟩
theorem of_prat {K : PySem.W.Frag} {F : Hp} : ∀ {ps : List (Int × Int)} {vs : List V}, Paired (PrAt K F) vs ps → Reps K F (ps.map dPr) vs
  | _, _, .nil => .nil
  | _, _, .cons ⟨t, e, h⟩ r => by
    subst e
    exact .cons (.tup h (.cons (.int _) (.cons (.int _) .nil))) (of_prat r)
def oSorted : DSp := fun xs m R => ∃ ps : List (Int × Int), xs = [.lst (ps.map dPr)] ∧ ∀ qs : List (Int × Int), qs.Perm ps → qs.Pairwise lexLe → R (.lst (qs.map dPr)) m
theorem cSorted {K : PySem.W.Frag} : CallD K (rSortedPT K) oSorted := by
  intro xs vs F G m H R Q p hh ho hk
  obtain ⟨ps, rfl, q⟩ := ho
  obtain ⟨v, rfl, z⟩ := reps1 p
  cases z with
  | lst s r => exact ⟨_, _, ps, F, rfl, hh.sub.seq s, hh.sub, prat_of r, fun ys qs p h1 h2 h3 hp => fin_lst hh (of_prat h1) (q qs h2 h3) hk p hp⟩
theorem de_sorted {p : Pos} (hm : X.mg "sorted" = none) (ha : DA X [a] 1 t) (hg : Gl X "sorted" := by rfl) (he : starEach [a] X.env = (false, eval a X.env) :: starEach [] X.env := by rfl) : DE X (.Call (.Name "sorted" p) [a] [] pos) (dCB oSorted t) := de_callB cr_sortedPT cSorted hm ha (by decide +kernel) hg (by decide) (by decide) he rfl

/-! ### isinstance of int, bool, tuple -/
def dIsi (T : String) (ta : DT) : DT := fun ds m R => ta ds m fun x m1 => match x with
  | .int _ => R (.bl (T == "int")) m1
  | .tup _ => R (.bl (T == "tuple")) m1
  | _ => False
theorem tyx_tup {K : PySem.W.Frag} {H : Hp} {a : Addr} {xs : List V} (h : SqT K H a xs) : TyX K H (.ref a) (.type "tuple") := by
  rcases h with (h | ⟨o, h⟩) | ⟨o, _, _, h, c, _⟩
  · exact .base (.tup h)
  · exact .fTuple h
  · exact .kTuple h c
theorem de_isi {T : String} {x : Str} {p p2 : Pos} (hT : x = Str.ofString T) (h1 : kitB "int" T = some (T == "int")) (h2 : kitB "tuple" T = some (T == "tuple")) (hm : X.mg "isinstance" = none) (hmT : X.mg x = none) (ha : DE X a ta) (hv : bootBuiltins x = some (.type T))
    (hg : Gl X "isinstance" := by rfl) (hgT : Gl X x := by rfl) (hn : x ≠ "__name__" := by decide) (hdb : (x == ("__debug__" : Str)) = false := by decide)
    (he : starEach [a, .Name x p2] X.env = (false, eval a X.env) :: starEach [.Name x p2] X.env := by rfl) (he2 : starEach [.Name x p2] X.env = (false, eval (.Name x p2) X.env) :: starEach [] X.env := by rfl) (hpl : (backTo pos (starEach [.Name x p2] X.env)).any (·.1) = false := by rfl) :
    DE X (.Call (.Name "isinstance" p) [a, .Name x p2] [] pos) (dIsi T ta) := by
  have pT : PE X (.Name x p2) (tC (.ty T)) := pe_bltn hgT hmT hv rfl hn hdb
  refine pe_imp (pe_callB call_isi hg hm (by decide +kernel) (pa_cons ha (pa_cons pT pa_nil he2) he) (by decide) (by decide) he hpl) fun σ H Q ⟨ds, m, F, G, R, he, hh, ht, hk⟩ => ?_
  refine ⟨ds, m, F, G, _, he, hh, ht, fun d m1 v F1 H1 r1 s1 hh1 p1 => ?_⟩
  show rIsi X.K [v, .ty T] H1 Q
  cases d with
  | int i =>
    cases p1
    exact ⟨_, _, _, _, _, rfl, .ty T, .base (.int i), kit_ty h1, hk _ m1 _ F1 H1 r1 s1 hh1 (.bl _)⟩
  | tup ds =>
    cases p1 with
    | tup s r => exact ⟨_, _, _, _, _, rfl, .ty T, tyx_tup (Same.seqT hh1.sub s), kit_ty h2, hk _ m1 _ F1 H1 r1 s1 hh1 (.bl _)⟩
  | _ => exact r1.elim
theorem de_isiInt {p p2 : Pos} (hm : X.mg "isinstance" = none) (hmT : X.mg "int" = none) (ha : DE X a ta) (hg : Gl X "isinstance" := by rfl) (hgT : Gl X "int" := by rfl)
    (he : starEach [a, .Name "int" p2] X.env = (false, eval a X.env) :: starEach [.Name "int" p2] X.env := by rfl) : DE X (.Call (.Name "isinstance" p) [a, .Name "int" p2] [] pos) (dIsi "int" ta) :=
  de_isi rfl (by decide +kernel) (by decide +kernel) hm hmT ha (by decide +kernel) hg hgT (by decide) (by decide) he rfl rfl
theorem de_isiBool {p p2 : Pos} (hm : X.mg "isinstance" = none) (hmT : X.mg "bool" = none) (ha : DE X a ta) (hg : Gl X "isinstance" := by rfl) (hgT : Gl X "bool" := by rfl)
    (he : starEach [a, .Name "bool" p2] X.env = (false, eval a X.env) :: starEach [.Name "bool" p2] X.env := by rfl) : DE X (.Call (.Name "isinstance" p) [a, .Name "bool" p2] [] pos) (dIsi "bool" ta) :=
  de_isi rfl (by decide +kernel) (by decide +kernel) hm hmT ha (by decide +kernel) hg hgT (by decide) (by decide) he rfl rfl
theorem de_isiTuple {p p2 : Pos} (hm : X.mg "isinstance" = none) (hmT : X.mg "tuple" = none) (ha : DE X a ta) (hg : Gl X "isinstance" := by rfl) (hgT : Gl X "tuple" := by rfl)
    (he : starEach [a, .Name "tuple" p2] X.env = (false, eval a X.env) :: starEach [.Name "tuple" p2] X.env := by rfl) : DE X (.Call (.Name "isinstance" p) [a, .Name "tuple" p2] [] pos) (dIsi "tuple" ta) :=
  de_isi rfl (by decide +kernel) (by decide +kernel) hm hmT ha (by decide +kernel) hg hgT (by decide) (by decide) he rfl rfl

end
/-! ### deep == -/
mutual
def toPy : D → PyData
  | .non => .none
  | .bl b => .bool b
  | .int i => .int i
  | .str x => .str x
  | .tup xs => .tuple (toPys xs)
  | .lst xs => .list (toPys xs)
  | .ref _ => .none
  | .ktup _ => .none
def toPys : List D → List PyData
  | [] => []
  | x :: xs => toPy x :: toPys xs
end
/-- no address within, at most n deep -/
inductive OkD : Nat → D → Prop
  | non (n : Nat) : OkD n .non
  | bl (n : Nat) (b1 : Bool) : OkD n (.bl b1)
  | int (n : Nat) (i : Int) : OkD n (.int i)
  | str (n : Nat) (x : Str) (h : PyData.strOk x = true) : OkD n (.str x)
  | tup {n} {xs : List D} (h : ∀ x ∈ xs, OkD n x) : OkD (n + 1) (.tup xs)
  | lst {n} {xs : List D} (h : ∀ x ∈ xs, OkD n x) : OkD (n + 1) (.lst xs)
mutual
theorem OkD.py : ∀ (n : Nat) (d : D), OkD n d → PyData.canLay0 (toPy d) = true ∧ PyData.depth (toPy d) ≤ n ∧ ∀ (K : PySem.W.Frag) (F : Hp) (v : V), Rep K F d v → Dp K F v (toPy d)
  | n, .non, _ => ⟨by simp [toPy, PyData.canLay0], by simp [toPy, PyData.depth], fun K F v r => by cases r; exact .non⟩
  | n, .bl b, _ => ⟨by simp [toPy, PyData.canLay0], by simp [toPy, PyData.depth], fun K F v r => by cases r; exact .bl b⟩
  | n, .int b, _ => ⟨by simp [toPy, PyData.canLay0], by simp [toPy, PyData.depth], fun K F v r => by cases r; exact .int b⟩
  | n, .str b, h => ⟨by
    cases h with
    | str _ _ h => simp only [toPy, PyData.canLay0]; exact h, by simp [toPy, PyData.depth], fun K F v r => by cases r; exact .str b⟩
  | n, .tup xs, h => by
    cases h with
    | tup h =>
      obtain ⟨h1, h2, h3⟩ := OkD.pys _ xs h
      refine ⟨by simp only [toPy, PyData.canLay0]; exact h1, by simp only [toPy, PyData.depth]; omega, fun K F v r => ?_⟩
      cases r with
      | tup s q => exact .tup (SqT.of s) (h3 K F _ q)
  | n, .lst xs, h => by
    cases h with
    | lst h =>
      obtain ⟨h1, h2, h3⟩ := OkD.pys _ xs h
      refine ⟨by simp only [toPy, PyData.canLay0]; exact h1, by simp only [toPy, PyData.depth]; omega, fun K F v r => ?_⟩
      cases r with
      | lst s q => exact .lst s (h3 K F _ q)
  | n, .ref a, h => by cases h
  | n, .ktup a, h => by cases h
theorem OkD.pys : ∀ (n : Nat) (xs : List D), (∀ x ∈ xs, OkD n x) → PyData.canLayAll0 (toPys xs) = true ∧ PyData.depthAll (toPys xs) ≤ n ∧ ∀ (K : PySem.W.Frag) (F : Hp) (vs : List V), Reps K F xs vs → DpAll K F vs (toPys xs)
  | n, [], _ => ⟨by simp [toPys, PyData.canLayAll0], by simp [toPys, PyData.depthAll], fun K F v r => by cases r; exact .nil⟩
  | n, x :: xs, h => by
    obtain ⟨h1, h2, h3⟩ := OkD.py n x (h x List.mem_cons_self)
    obtain ⟨k1, k2, k3⟩ := OkD.pys n xs fun y hy => h y (List.mem_cons_of_mem _ hy)
    refine ⟨by simp only [toPys, PyData.canLayAll0, h1, k1, Bool.and_self], by simp only [toPys, PyData.depthAll]; omega, fun K F v r => ?_⟩
    cases r with
    | cons p q => exact .cons (h3 K F _ p) (k3 K F _ q)
end
theorem OkD.shaped {n : Nat} {d : D} (h : OkD n d) (hn : n ≤ 64) : SeqAt.shaped (toPy d) = true := by
  obtain ⟨h1, h2, _⟩ := OkD.py n d h
  unfold SeqAt.shaped
  rw [h1, decide_eq_true (by omega : (toPy d).depth ≤ 64)]
  rfl
theorem OkD.dp {n : Nat} {d : D} (h : OkD n d) {K : PySem.W.Frag} {F H : Hp} {v : V} (s : Same F H) (r : Rep K F d v) : Dp K H v (toPy d) := (OkD.py n d h).2.2 K H v (Rep.mono s _ _ r)
section
variable {X : Cx} {a b : Expr} {ta tb : DT} {pos : Pos}
/-- ==, != of pairs of ints, of a list and the empty one -/
def oEqD (neg : Bool) : D → D → M → (D → M → Prop) → Prop := fun x y m R => match x, y with
  | .tup [.int a, .int b], .tup [.int c, .int d] => R (.bl (if neg then !decide ((a, b) = (c, d)) else decide ((a, b) = (c, d)))) m
  | .lst xs, .lst [] => (∀ x ∈ xs, OkD 60 x) ∧ R (.bl (if neg then !xs.isEmpty else xs.isEmpty)) m
  | _, _ => False
theorem okPr (a b : Int) : OkD 1 (.tup [.int a, .int b]) := .tup fun x hx => by
  rcases List.mem_cons.mp hx with e | hx
  · rw [e]; exact .int _ _
  · rcases List.mem_cons.mp hx with e | hx
    · rw [e]; exact .int _ _
    · cases hx
theorem eqv_pr (a b c d : Int) : PyData.eqv (toPy (.tup [.int a, .int b])) (toPy (.tup [.int c, .int d])) = decide ((a, b) = (c, d)) := by
  have e : PyData.eqv (toPy (.tup [.int a, .int b])) (toPy (.tup [.int c, .int d])) = ((a == c) && ((b == d) && true)) := by simp only [toPy, toPys, PyData.eqv, PyData.eqvAll]
  rw [e]
  by_cases h1 : a = c
  · by_cases h2 : b = d
    · subst h1 h2; simp
    · simp [h2]
  · simp [h1]
theorem eqv_nil (xs : List D) : PyData.eqv (toPy (.lst xs)) (toPy (.lst [])) = xs.isEmpty := by
  cases xs <;> simp [toPy, toPys, PyData.eqv, PyData.eqvAll]
theorem bEqD {K} : BinD K (rEqD K) (oEqD false) := by
  intro x y v w F G m H R Q p1 p2 hh ho hk
  unfold oEqD at ho
  split at ho
  · refine ⟨_, _, (okPr _ _).dp hh.sub p1, (okPr _ _).dp hh.sub p2, (okPr _ _).shaped (by decide), (okPr _ _).shaped (by decide), ?_⟩
    rw [eqv_pr]
    exact hk _ m _ F H ho (Same.refl _) hh (.bl _)
  · have o1 := OkD.lst ho.1
    have o2 : OkD 1 (.lst []) := .lst fun _ h => nomatch h
    refine ⟨_, _, o1.dp hh.sub p1, o2.dp hh.sub p2, o1.shaped (by decide), o2.shaped (by decide), ?_⟩
    rw [eqv_nil]
    exact hk _ m _ F H ho.2 (Same.refl _) hh (.bl _)
  · exact ho.elim
theorem bNeD {K} : BinD K (rNeD K) (oEqD true) := by
  intro x y v w F G m H R Q p1 p2 hh ho hk
  unfold oEqD at ho
  split at ho
  · refine ⟨_, _, (okPr _ _).dp hh.sub p1, (okPr _ _).dp hh.sub p2, (okPr _ _).shaped (by decide), (okPr _ _).shaped (by decide), ?_⟩
    rw [eqv_pr]
    exact hk _ m _ F H ho (Same.refl _) hh (.bl _)
  · have o1 := OkD.lst ho.1
    have o2 : OkD 1 (.lst []) := .lst fun _ h => nomatch h
    refine ⟨_, _, o1.dp hh.sub p1, o2.dp hh.sub p2, o1.shaped (by decide), o2.shaped (by decide), ?_⟩
    rw [eqv_nil]
    exact hk _ m _ F H ho.2 (Same.refl _) hh (.bl _)
  · exact ho.elim
theorem de_eqD {j : Nat} (hr : Room j X.A) (ha : DE X a ta) (hb : DE X b tb) : DE X (.Compare a [.Eq] [b] pos) (dBin (oEqD false) ta tb) := de_cmp (op_eqD hr.units) bEqD ha hb
theorem de_neD {j : Nat} (hr : Room j X.A) (ha : DE X a ta) (hb : DE X b tb) : DE X (.Compare a [.NotEq] [b] pos) (dBin (oEqD true) ta tb) := de_cmp (op_neD hr.units) bNeD ha hb
theorem dt_eqD {j : Nat} (hr : Room j X.A) (ha : DE X a ta) (hb : DE X b tb) : DTs X (.Compare a [.Eq] [b] pos) (dTst (dBin (oEqD false) ta tb)) := dt_cmp (op_eqD hr.units) bEqD ha hb
theorem dt_neD {j : Nat} (hr : Room j X.A) (ha : DE X a ta) (hb : DE X b tb) : DTs X (.Compare a [.NotEq] [b] pos) (dTst (dBin (oEqD true) ta tb)) := dt_cmp (op_neD hr.units) bNeD ha hb

/-! ### not in -/
/-- an int among written ints; a pair among the pairs of a tuple -/
def oNotIn : D → D → M → (D → M → Prop) → Prop := fun x y m R => match x with
  | .int i => ∃ ns : List Int, y = .tup (ns.map D.int) ∧ R (.bl (!decide (i ∈ ns))) m
  | .tup [.int a, .int b] => ∃ ps : List (Int × Int), y = .tup (ps.map dPr) ∧ R (.bl (!decide ((a, b) ∈ ps))) m
  | _ => False
def rNotInT (K : PySem.W.Frag) : R2 := fun x y H Q => ∃ d ds, Dp K H x d ∧ Dp K H y (.tuple ds) ∧ SeqAt.shaped d = true ∧ SeqAt.shaped (.tuple ds) = true ∧ Q (.bl (!ds.any fun z => PyData.eqv z d)) H
theorem op_notInT (hu : X.A.units + 65 < cLine) : OpR X (compareOp .NotIn) (rNotInT X.K) := by
  intro pins s σ H x y v u Q I rx ry h
  obtain ⟨d, ds, hd, he, sd, se, q⟩ := h
  obtain ⟨as, r1⟩ := Dp.reads I d x v hd rx
  obtain ⟨bs, r2⟩ := Dp.reads I (.tuple ds) y u he ry
  exact SeqAt.notIn_tuple_reads r2 r1 (SeqAt.canLay_of_shaped se) (SeqAt.canLay_of_shaped sd) (room_in_shaped sd hu) ⟨.bl _, H, I, rfl, q⟩
theorem any_pr (a b : Int) : ∀ ps : List (Int × Int), ((toPys (ps.map dPr)).any fun z => PyData.eqv z (toPy (.tup [.int a, .int b]))) = decide ((a, b) ∈ ps)
  | [] => rfl
  | p :: ps => by
    show (PyData.eqv (toPy (dPr p)) _ || (toPys (ps.map dPr)).any _) = _
    rw [eqv_pr, any_pr a b ps, Bool.eq_iff_iff]
    simp only [Bool.or_eq_true, decide_eq_true_eq, List.mem_cons]
    exact or_congr ⟨fun e => e.symm, fun e => e.symm⟩ Iff.rfl
theorem any_int (a : Int) : ∀ ps : List Int, ((toPys (ps.map D.int)).any fun z => PyData.eqv z (toPy (.int a))) = decide (a ∈ ps)
  | [] => rfl
  | p :: ps => by
    show (PyData.eqv (.int p) (.int a) || (toPys (ps.map D.int)).any _) = _
    rw [any_int a ps, Bool.eq_iff_iff]
    have e : PyData.eqv (.int p) (.int a) = (p == a) := by simp only [PyData.eqv]
    rw [e]
    simp only [Bool.or_eq_true, decide_eq_true_eq, List.mem_cons, beq_iff_eq]
    exact or_congr ⟨fun e => e.symm, fun e => e.symm⟩ Iff.rfl
theorem bNotIn {K} : BinD K (rNotInT K) oNotIn := by
  intro x y v w F G m H R Q p1 p2 hh ho hk
  unfold oNotIn at ho
  split at ho
  · obtain ⟨ns, rfl, q⟩ := ho
    have o1 : ∀ i, OkD 1 (.int i) := fun i => .int _ _
    have o2 : OkD 2 (.tup (ns.map D.int)) := .tup fun x hx => by
      obtain ⟨i, _, rfl⟩ := List.mem_map.mp hx
      exact .int _ _
    refine ⟨_, _, (o1 _).dp hh.sub p1, by have := o2.dp hh.sub p2; simp only [toPy] at this; exact this, (o1 _).shaped (by decide), by have := o2.shaped (by decide); simp only [toPy] at this; exact this, ?_⟩
    rw [any_int]
    exact hk _ m _ F H q (Same.refl _) hh (.bl _)
  · obtain ⟨ns, rfl, q⟩ := ho
    have o2 : OkD 2 (.tup (ns.map dPr)) := .tup fun x hx => by
      obtain ⟨i, _, rfl⟩ := List.mem_map.mp hx
      exact okPr _ _
    refine ⟨_, _, (okPr _ _).dp hh.sub p1, by have := o2.dp hh.sub p2; simp only [toPy] at this; exact this, (okPr _ _).shaped (by decide), by have := o2.shaped (by decide); simp only [toPy] at this; exact this, ?_⟩
    rw [any_pr]
    exact hk _ m _ F H q (Same.refl _) hh (.bl _)
  · exact ho.elim
theorem units65 {j : Nat} (hr : Room j X.A) : X.A.units + 65 < cLine := by
  have := hr.un
  omega
theorem dt_notIn {j : Nat} (hr : Room j X.A) (ha : DE X a ta) (hb : DE X b tb) (hm : behindInMarks .NotIn b = false := by rfl) : DTs X (.Compare a [.NotIn] [b] pos) (dTst (dBin oNotIn ta tb)) := dt_cmp (op_notInT (units65 hr)) bNotIn ha hb hm

/-! ### join -/
def dJoin (ta tb : DT) : DT := fun ds m R => ta ds m fun x m1 => (∃ z, x = .str z) ∧ tb ds m1 fun y m2 => ∃ (z : Str) (ys : List Str), x = .str z ∧ y = .lst (ys.map D.str) ∧ (ys.map (·.length)).sum + ys.length * z.length ≤ 16777216 ∧ R (.str (Txt.join z ys)) m2
theorem de_join {apos : Pos} (ha : DE X a ta) (hb : DE X b tb) (hs : starEach [b] X.env = [(false, eval b X.env)] := by rfl) (hbase : attributeBase a "join" X.env (eval a X.env) = eval a X.env := by rfl) (hline : (apos.endLine == pos.line) = true := by rfl) : DE X (.Call (.Attribute a "join" apos) [b] [] pos) (dJoin ta tb) := by
  refine pe_imp (pe_join ha hb hs hbase hline) fun σ H Q ⟨ds, m, F, G, R, he, hh, ht, hk⟩ => ?_
  refine ⟨ds, m, F, G, _, he, hh, ht, fun x m1 v F1 H1 r1 s1 h1 p1 => ⟨?_, ds, m1, F1, G, _, he.mono s1, h1, r1.2, fun y m2 w F2 H2 r2 s2 h2 p2 => ?_⟩⟩
  · obtain ⟨z, e⟩ := r1.1
    subst e
    cases p1
    exact ⟨_, rfl⟩
  · obtain ⟨z, ys, rfl, rfl, hz, q⟩ := r2
    cases p1
    cases p2 with
    | lst s r =>
      rw [r.strs] at s
      exact ⟨z, _, ys, rfl, rfl, .inl (h2.sub.seq s), hz, hk _ m2 _ F2 H2 q (s1.trans s2) h2 (.str _)⟩
end
end K23
/-! the data layer's rules: statements, loops, comprehensions, a def's body -/
namespace K23
open PySem PySem.Spec PyProof.Rows L2

/-! ### targets -/
abbrev DTg := D → DEnv → (DEnv → Prop) → Prop
abbrev DTgs := List D → DEnv → (DEnv → Prop) → Prop
/-- vs: the slots that the target stores -/
def LG (K : PySem.W.Frag) (vs : List Nat) (g : DTg) : TG := fun v σ H Q => ∃ d ds m F G R, Rep K F d v ∧ ERep K F ds σ ∧ HeapOk K G F m H ∧ g d ds R ∧ ∀ ds' σ', R ds' → ERep K F ds' σ' → (∀ ws : List Nat, (∀ i ∈ vs, i ∈ ws) → wipe σ' ws = wipe σ ws) → Q σ' H
def LGs (K : PySem.W.Frag) (vs : List Nat) (g : DTgs) : TGs := fun v σ H Q => ∃ d ds m F G R, Reps K F d v ∧ ERep K F ds σ ∧ HeapOk K G F m H ∧ g d ds R ∧ ∀ ds' σ', R ds' → ERep K F ds' σ' → (∀ ws : List Nat, (∀ i ∈ vs, i ∈ ws) → wipe σ' ws = wipe σ ws) → Q σ' H
abbrev DG (X : Cx) (e : Expr) (vs : List Nat) (g : DTg) : Prop := PG X e (LG X.K vs g)
abbrev DGs (X : Cx) (es : List Expr) (vs : List Nat) (g : DTgs) : Prop := PGs X es (LGs X.K vs g)
theorem wipe_get {σ : L2.St} {j : Nat} : ∀ ws : List Nat, (wipe σ ws)[j]? = if j ∈ ws then (σ[j]?.map fun _ => none) else σ[j]?
  | [] => by simp [wipe]
  | w :: ws => by
    have ih := wipe_get (σ := σ) (j := j) ws
    unfold wipe
    rw [List.getElem?_set]
    by_cases e : w = j
    · subst e
      rw [if_pos rfl, if_pos List.mem_cons_self, L2.wipe_length]
      by_cases hl : w < σ.length
      · rw [if_pos hl, List.getElem?_eq_getElem hl]
        rfl
      · rw [if_neg hl, List.getElem?_eq_none (by omega)]
        rfl
    · rw [if_neg e, ih]
      by_cases hj : j ∈ ws
      · rw [if_pos hj, if_pos (List.mem_cons_of_mem _ hj)]
      · rw [if_neg hj, if_neg (by
          intro z
          rcases List.mem_cons.mp z with z | z
          · exact e z.symm
          · exact hj z)]
theorem wipe_set {σ : L2.St} {i : Nat} {o : Option V} {ws : List Nat} (h : i ∈ ws) : wipe (σ.set i o) ws = wipe σ ws := by
  apply List.ext_getElem?
  intro j
  rw [wipe_get, wipe_get, List.getElem?_set]
  by_cases hj : j ∈ ws
  · rw [if_pos hj, if_pos hj]
    by_cases e : i = j
    · subst e
      rw [if_pos rfl]
      by_cases hl : i < σ.length
      · rw [if_pos hl, List.getElem?_eq_getElem hl]; rfl
      · rw [if_neg hl, List.getElem?_eq_none (by omega)]
    · rw [if_neg e]
  · rw [if_neg hj, if_neg hj, if_neg (fun e : i = j => hj (by rw [← e]; exact h))]
theorem wipe_wipe {σ : L2.St} {ws : List Nat} : wipe (wipe σ ws) ws = wipe σ ws := by
  apply List.ext_getElem?
  intro j
  rw [wipe_get, wipe_get]
  by_cases hj : j ∈ ws
  · rw [if_pos hj, if_pos hj]
    cases σ[j]? <;> rfl
  · rw [if_neg hj, if_neg hj]
section
variable {X : Cx} {pos : Pos}
theorem pg_imp {e : Expr} {t t' : TG} (h : PG X e t) (w : ∀ v σ H Q, t' v σ H Q → t v σ H Q) : PG X e t' := ⟨fun pins s σ H v u Q I r hw => h.run pins s σ H v u Q I r (w v σ H Q hw)⟩
theorem pgs_imp {e : List Expr} {t t' : TGs} (h : PGs X e t) (w : ∀ v σ H Q, t' v σ H Q → t v σ H Q) : PGs X e t' := ⟨fun pins s σ H v u Q I r hw => h.run pins s σ H v u Q I r (w v σ H Q hw)⟩
def gdName (i : Nat) : DTg := fun d ds R => R (ds.set i (some d))
theorem dg_name {i : Nat} {x : Str} (hN : X.N.Nodup) (hi : X.N[i]? = some x := by rfl) (hx : Loc X.env.scope x := by first | exact Or.inl rfl | exact Or.inr rfl) (hf : X.fn x = true ∨ X.env.scope.names.lookup x = some .local := by first | exact Or.inl rfl | exact Or.inr rfl) : DG X (.Name x pos) [i] (gdName i) :=
  pg_imp (pg_name (i := i) hN hi hx hf) fun v σ H Q ⟨d, ds, m, F, G, R, p, he, hh, ht, hk⟩ => hk _ _ ht (he.set (o := some d) (q := some v) p i) fun ws hw => wipe_set (hw i List.mem_cons_self)
def gdNil : DTgs := fun xs ds R => match xs with
  | [] => R ds
  | _ => False
def gdCons (t : DTg) (u : DTgs) : DTgs := fun xs ds R => match xs with
  | x :: xs => t x ds fun ds1 => u xs ds1 R
  | [] => False
theorem dgs_nil : DGs X [] [] gdNil := pgs_imp pgs_nil fun v σ H Q ⟨d, ds, m, F, G, R, p, he, hh, ht, hk⟩ => by
  cases p with
  | nil => exact ⟨rfl, hk _ _ ht he fun _ _ => rfl⟩
  | cons => exact ht.elim
theorem dgs_cons {e : Expr} {es : List Expr} {vs ws : List Nat} {t : DTg} {u : DTgs} (h1 : DG X e vs t) (h2 : DGs X es ws u) (hs : (assignEach (e :: es) X.env).map (·.2) = assign e X.env :: (assignEach es X.env).map (·.2) := by rfl) : DGs X (e :: es) (vs ++ ws) (gdCons t u) := pgs_imp (pgs_cons h1 h2 hs) fun v σ H Q ⟨d, ds, m, F, G, R, p, he, hh, ht, hk⟩ => by
  cases p with
  | nil => exact ht.elim
  | cons p ps =>
    refine ⟨_, _, rfl, _, ds, m, F, G, _, p, he, hh, ht, fun ds1 σ1 r1 he1 w1 => ⟨_, ds1, m, F, G, _, ps, he1, hh, r1, fun ds2 σ2 r2 he2 w2 => hk ds2 σ2 r2 he2 fun zs hz => ?_⟩⟩
    rw [w2 zs fun i hi => hz i (List.mem_append_right _ hi), w1 zs fun i hi => hz i (List.mem_append_left _ hi)]
def gdTup (n : Nat) (t : DTgs) : DTg := fun d ds R => match d with
  | .tup xs => xs.length = n ∧ t xs ds R
  | _ => False
theorem dg_tup {es : List Expr} {k : Nat} {vs : List Nat} {t : DTgs} {n : Nat} (hc : X.calm = true) (h : DGs X es vs t) (hn : (assignEach es X.env).length = n := by rfl) (hst : (assignEach es X.env).findIdx? (·.1) = none := by rfl) : DG X (.Tuple es k pos) vs (gdTup n t) :=
  pg_imp (pg_tup hc h hn hst) fun v σ H Q ⟨d, ds, m, F, G, R, p, he, hh, ht, hk⟩ => by
    cases p with
    | tup s r => exact ⟨_, _, rfl, Same.seqT hh.sub s, by rw [r.length]; exact ht.1, _, ds, m, F, G, R, r, he, hh, ht.2, hk⟩
    | _ => exact ht.elim
end

/-! ### statements -/
structure DEnds where
  nx : DEnv → M → Prop
  rt : D → M → Prop
  bk : DEnv → M → Prop := fun _ _ => False
  ct : DEnv → M → Prop := fun _ _ => False
abbrev DTS := DEnds → DEnv → M → Prop
structure Lnk (K : PySem.W.Frag) (G : Gh) (F : Hp) (E : DEnds) (Z : Ends) : Prop where
  nx : ∀ ds' m' σ' F' H', E.nx ds' m' → Same F F' → HeapOk K G F' m' H' → ERep K F' ds' σ' → Z.nx σ' H'
  rt : Fin K G F E.rt Z.rt
  bk : ∀ ds' m' σ' F' H', E.bk ds' m' → Same F F' → HeapOk K G F' m' H' → ERep K F' ds' σ' → Z.bk σ' H'
  ct : ∀ ds' m' σ' F' H', E.ct ds' m' → Same F F' → HeapOk K G F' m' H' → ERep K F' ds' σ' → Z.ct σ' H'
theorem Lnk.mono {K : PySem.W.Frag} {G : Gh} {F F' : Hp} {E : DEnds} {Z : Ends} (h : Lnk K G F E Z) (s : Same F F') : Lnk K G F' E Z :=
  ⟨fun a b c d e f g => h.nx a b c d e f (s.trans g), h.rt.mono s, fun a b c d e f g => h.bk a b c d e f (s.trans g), fun a b c d e f g => h.ct a b c d e f (s.trans g)⟩
def LS (K : PySem.W.Frag) (t : DTS) : TS := fun Z σ H => ∃ ds m F G E, ERep K F ds σ ∧ HeapOk K G F m H ∧ t E ds m ∧ Lnk K G F E Z
abbrev DS (X : Cx) (st : Stmt) (t : DTS) : Prop := PS X st (LS X.K t)
abbrev DSs (X : Cx) (st : List Stmt) (t : DTS) : Prop := PSs X st (LS X.K t)
section
variable {X : Cx} {st : Stmt} {rest : List Stmt} {t u : DTS} {e : Expr} {te : DT} {pos : Pos}
def sNext : DTS := fun E ds m => E.nx ds m
def sSeq (t u : DTS) : DTS := fun E ds m => t { E with nx := u E } ds m
theorem dss_nil : DSs X [] sNext := pss_imp pss_nil fun Z σ H ⟨ds, m, F, G, E, he, hh, ht, hk⟩ => hk.nx _ _ _ _ _ ht (Same.refl _) hh he
theorem dss_cons (h1 : DS X st t) (h2 : DSs X rest u) : DSs X (st :: rest) (sSeq t u) := pss_imp (pss_cons h1 h2) fun Z σ H ⟨ds, m, F, G, E, he, hh, ht, hk⟩ =>
  ⟨ds, m, F, G, _, he, hh, ht, ⟨fun ds' m' σ' F' H' r s hh' he' => ⟨ds', m', F', G, E, he', hh', r, hk.mono s⟩, hk.rt, hk.bk, hk.ct⟩⟩
theorem dss_one (h1 : DS X st t) : DSs X [st] t := pss_one h1
def sCont : DTS := fun E ds m => E.ct ds m
theorem ds_continue : DS X (.Continue pos) sCont := ps_imp ps_continue fun Z σ H ⟨ds, m, F, G, E, he, hh, ht, hk⟩ => hk.ct _ _ _ _ _ ht (Same.refl _) hh he
theorem ds_pass : DS X (.Pass pos) sNext := ps_imp ps_pass fun Z σ H ⟨ds, m, F, G, E, he, hh, ht, hk⟩ => hk.nx _ _ _ _ _ ht (Same.refl _) hh he
def sRet (te : DT) : DTS := fun E ds m => te ds m E.rt
theorem ds_ret (he : DE X e te) : DS X (.Return (some e) pos) (sRet te) := ps_imp (ps_ret he) fun Z σ H ⟨ds, m, F, G, E, he, hh, ht, hk⟩ => ⟨ds, m, F, G, E.rt, he, hh, ht, hk.rt⟩
def sIf (c : DTt) (t u : DTS) : DTS := fun E ds m => c ds m fun b m1 => if b = true then t E ds m1 else u E ds m1
theorem ds_if {c : Expr} {a b : List Stmt} {tc : DTt} (hc : DTs X c tc) (ha : DSs X a t) (hb : DSs X b u) : DS X (.If c a b pos) (sIf tc t u) := ps_imp (ps_if hc ha hb) fun Z σ H ⟨ds, m, F, G, E, he, hh, ht, hk⟩ => by
  refine ⟨ds, m, F, G, _, he, hh, ht, fun b m1 F1 H1 r1 s1 h1 => ?_⟩
  cases b with
  | true => exact ⟨ds, m1, F1, G, E, he.mono s1, h1, r1, hk.mono s1⟩
  | false => exact ⟨ds, m1, F1, G, E, he.mono s1, h1, r1, hk.mono s1⟩
def sNever : DTS := fun _ _ _ => False
theorem dss_never {sts : List Stmt} : DSs X sts sNever := pss_imp pss_never fun Z σ H ⟨ds, m, F, G, E, he, hh, ht, hk⟩ => ht
theorem ds_never : DS X st sNever := ps_imp ps_never fun Z σ H ⟨ds, m, F, G, E, he, hh, ht, hk⟩ => ht
def sSet (i : Nat) (te : DT) : DTS := fun E ds m => te ds m fun d m1 => E.nx (ds.set i (some d)) m1
theorem ds_set (i : Nat) {x : Str} {pos' : Pos} (hN : X.N.Nodup) (he : DE X e te) (hi : X.N[i]? = some x := by rfl) (hx : Loc X.env.scope x := by first | exact Or.inl rfl | exact Or.inr rfl) (hs : swapsWith e (some (.Name x pos')) pos.line X.env = pure false := by rfl) (hf : X.fn x = true ∨ X.env.scope.names.lookup x = some .local := by first | exact Or.inl rfl | exact Or.inr rfl) :
    DS X (.Assign [.Name x pos'] e pos) (sSet i te) := ps_imp (ps_set (i := i) hN hi hx he hs hf) fun Z σ H ⟨ds, m, F, G, E, he, hh, ht, hk⟩ =>
  ⟨ds, m, F, G, _, he, hh, ht, fun d m1 v F1 H1 r1 s1 h1 p1 => hk.nx _ _ _ _ _ r1 s1 h1 ((he.mono s1).set (o := some d) (q := some v) p1 i)⟩
/-- target = value -/
def sAsg (te : DT) (g : DTg) : DTS := fun E ds m => te ds m fun d m1 => g d ds fun ds1 => E.nx ds1 m1
theorem ds_asg {tg : Expr} {vs : List Nat} {g : DTg} (he : DE X e te) (hg : DG X tg vs g) (hs : swapsWithSole [tg] e pos.line X.env = pure false := by rfl) (hw : swappedStores [tg] e X.env = pure none := by rfl) (h1 : (assignEach [tg] X.env).map (·.2) = [assign tg X.env] := by rfl) : DS X (.Assign [tg] e pos) (sAsg te g) := ps_imp (ps_asg he hg hs hw h1) fun Z σ H ⟨ds, m, F, G, E, he, hh, ht, hk⟩ =>
  ⟨ds, m, F, G, _, he, hh, ht, fun d m1 v F1 H1 r1 s1 h1 p1 => ⟨d, ds, m1, F1, G, _, p1, he.mono s1, h1, r1, fun ds' σ' r he' _ => hk.nx _ _ _ _ _ r s1 h1 he'⟩⟩
/-- a, b = x, y -/
def sPar (i j : Nat) (ta : DTa) : DTS := fun E ds m => ta ds m fun xs m1 => match xs with
  | [x, y] => E.nx ((ds.set i (some x)).set j (some y)) m1
  | _ => False
theorem ds_par (i j : Nat) {x y : Str} {a b : Expr} {ta : DTa} {px py pt : Pos} {kt k2 pt2} (hc : X.calm = true) (hN : X.N.Nodup) (ha : DA X [a, b] 2 ta) (hi : X.N[i]? = some x := by rfl) (hj : X.N[j]? = some y := by rfl) (hij : i ≠ j := by decide)
    (hx : X.env.scope.names.lookup x = some .local := by rfl) (hy : X.env.scope.names.lookup y = some .local := by rfl)
    (hw : swappedStores [.Tuple [.Name x px, .Name y py] kt pt] (.Tuple [a, b] k2 pt2) X.env = pure (some [x, y]) := by rfl)
    (hs : swapsWithSole [.Tuple [.Name x px, .Name y py] kt pt] (.Tuple [a, b] k2 pt2) pos.line X.env = pure false := by rfl) :
    DS X (.Assign [.Tuple [.Name x px, .Name y py] kt pt] (.Tuple [a, b] k2 pt2) pos) (sPar i j ta) := ps_imp (ps_par hc hN hi hj hij hx hy ha hw hs) fun Z σ H ⟨ds, m, F, G, E, he, hh, ht, hk⟩ => by
  refine ⟨ds, m, F, G, _, he, hh, ht, fun xs m1 vs F1 H1 r1 hl s1 h1 p1 => ?_⟩
  match xs, r1, p1 with
  | [x, y], r1, p1 =>
    obtain ⟨v, w, e, p, q⟩ := reps2 p1
    subst e
    exact ⟨v, w, rfl, hk.nx _ _ _ _ _ r1 s1 h1 (((he.mono s1).set (o := some x) (q := some v) p i).set (o := some y) (q := some w) q j)⟩
/-- an expression whose value is dropped -/
def sDrop (te : DT) : DTS := fun E ds m => te ds m fun _ m1 => E.nx ds m1
theorem ds_expr (he : DE X e te) (hs : swapsWith e none pos.line X.env = pure false := by rfl) : DS X (.Expr e pos) (sDrop te) := ps_imp (ps_expr he hs) fun Z σ H ⟨ds, m, F, G, E, he, hh, ht, hk⟩ =>
  ⟨ds, m, F, G, _, he, hh, ht, fun d m1 v F1 H1 r1 s1 h1 p1 => hk.nx _ _ _ _ _ r1 s1 h1 (he.mono s1)⟩

/-! ### the def's own list -/
/-- found = [] -/
def sOwn (i : Nat) : DTS := fun E ds m => ∀ p, E.nx (ds.set i (some (.ref p))) ⟨m.dk, some (p, [])⟩
theorem HeapOk.own {K : PySem.W.Frag} {G : Gh} {F : Hp} {m : M} {H : Hp} (h : HeapOk K G F m H) {p : Addr} (hp : H p = none) : HeapOk K G F ⟨m.dk, some (p, [])⟩ (upd H p (.lst [])) := by
  have j := h.junk (o := .lst []) hp
  refine { sub := j.sub, subB := j.subB, fresh := j.fresh, keep := j.keep, dk := j.dk, dkn := j.dkn, dk0 := j.dk0, ow := fun q xs e => ?_ }
  have e2 : (p, ([] : List D)) = (q, xs) := Option.some.inj e
  cases e2
  refine ⟨h.freshF hp, h.freshB hp, ⟨[], upd_same, .nil⟩, fun d e => ?_⟩
  obtain ⟨_, _, _, h1, h2, _⟩ := h.dk d e
  exact ⟨fun z => (by rw [z, h1] at hp; cases hp), fun z => (by rw [z, h2] at hp; cases hp)⟩
theorem ds_own (i : Nat) {x : Str} {pos' pos2 : Pos} (hN : X.N.Nodup) (hi : X.N[i]? = some x := by rfl) (hx : Loc X.env.scope x := by first | exact Or.inl rfl | exact Or.inr rfl) (hs : swapsWith (.List [] pos2) (some (.Name x pos')) pos.line X.env = pure false := by rfl) (hf : X.fn x = true ∨ X.env.scope.names.lookup x = some .local := by first | exact Or.inl rfl | exact Or.inr rfl) :
    DS X (.Assign [.Name x pos'] (.List [] pos2) pos) (sOwn i) := ps_imp (ps_set (i := i) hN hi hx (pe_lst pa_nil) hs hf) fun Z σ H ⟨ds, m, F, G, E, he, hh, ht, hk⟩ => by
  refine ⟨Nat.zero_le _, fun p hp => ?_⟩
  exact hk.nx _ _ _ _ _ (ht p) (Same.refl _) (hh.own hp) (he.set (o := some (.ref p)) (q := some (.ref p)) (.ref p) i)
/-- found.append(e) -/
def sApp (i : Nat) (te : DT) : DTS := fun E ds m => match ds[i]?, m.ow with
  | some (some (.ref p)), some (q, _) => p = q ∧ te ds m fun d m1 => match m1.ow with
    | some (r, xs) => r = p ∧ xs.length < 100000 ∧ E.nx ds ⟨m1.dk, some (p, xs ++ [d])⟩
    | none => False
  | _, _ => False
theorem HeapOk.append {K : PySem.W.Frag} {G : Gh} {F : Hp} {m : M} {H : Hp} {p : Addr} {xs : List D} {d : D} {v : V} {vs : List V} (h : HeapOk K G F m H) (e : m.ow = some (p, xs)) (hv : H p = some (.lst vs)) (r : Reps K F xs vs) (q : Rep K F d v) : HeapOk K G F ⟨m.dk, some (p, xs ++ [d])⟩ (upd H p (.lst (vs ++ [v]))) := by
  obtain ⟨o1, o2, _, o4⟩ := h.ow p xs e
  refine { sub := fun b o e => ?_, subB := h.subB, fresh := h.fresh, keep := fun b o e hd => ?_, dk := fun d2 e2 => ?_, dkn := h.dkn, dk0 := h.dk0, ow := fun q2 ys e2 => ?_ }
  · rw [upd_ne (ne_of_none e o1)]
    exact h.sub b o e
  · rw [upd_ne (ne_of_none e o2)]
    exact h.keep b o e hd
  · have e2 : m.dk = some d2 := e2
    obtain ⟨z1, z2⟩ := o4 d2 e2
    have w := h.dk d2 e2
    obtain ⟨_, _, _, _, _, _, h4, h5, _⟩ := id w
    exact w.stay (Same.refl _) (upd_ne (Ne.symm z1)) (upd_ne (Ne.symm z2)) h4 h5
  · have e3 : (p, xs ++ [d]) = (q2, ys) := Option.some.inj e2
    cases e3
    exact ⟨o1, o2, ⟨_, upd_same, r.append (.cons q .nil)⟩, o4⟩
theorem ds_app (i : Nat) {x : Str} {px apos cpos : Pos} (he : DE X e te) (hN : X.N[i]? = some x := by rfl) (hv : Vis X.env.scope x := by first | exact Or.inl rfl | exact Or.inr (Or.inl rfl) | exact Or.inr (Or.inr rfl)) (hd : (x == ("__debug__" : Str)) = false := by decide) (hcd : (x == ("__classdict__" : Str)) = false := by decide)
    (hst : starEach [e] X.env = (false, eval e X.env) :: starEach [] X.env := by rfl) (hbm : attributeBase (.Name x px) "append" X.env (eval (.Name x px) X.env) = eval (.Name x px) X.env := by rfl) (hline : (apos.endLine == cpos.line) = true := by rfl)
    (hfew : ((backTo cpos (starEach [e] X.env)).all (fun x => !x.1) && (backToKw cpos (keywordEach [] X.env)).all (fun x => x.1.isSome) && decide ([e].length + ([] : List Keyword).length + (if ([] : List Keyword).isEmpty then 0 else 1) < 30)) = true := by rfl)
    (hs : swapsWith (.Call (.Attribute (.Name x px) "append" apos) [e] [] cpos) none pos.line X.env = pure false := by rfl) :
    DS X (.Expr (.Call (.Attribute (.Name x px) "append" apos) [e] [] cpos) pos) (sApp i te) := by
  refine ps_imp (ps_expr (pe_bm PySem.F.plainAttrs_list PySem.F.slot_list_append PySem.F.type_list_append mt_append (pv i hN hv hd hcd) (pa_cons he pa_nil hst) hbm hfew hline hst rfl) hs) fun Z σ H ⟨ds, m, F, G, E, he, hh, ht, hk⟩ => ?_
  unfold sApp at ht
  split at ht
  · rename_i p q xs0 e1 e2
    obtain ⟨rfl, ht⟩ := ht
    obtain ⟨v, e3, r3⟩ := he.get e1
    cases r3
    obtain ⟨_, _, ⟨vs0, w1, _⟩, _⟩ := hh.ow _ _ e2
    refine ⟨.ref p, e3, .inl ⟨rfl, _, .inl (.inl w1)⟩, ds, m, F, G, _, he, hh, ht, fun d m1 v F1 H1 r1 s1 h1 p1 => ?_⟩
    split at r1
    · rename_i r xs e4
      obtain ⟨rfl, hz, r1⟩ := r1
      obtain ⟨_, _, ⟨vs, w2, w3⟩, _⟩ := h1.ow _ _ e4
      exact ⟨_, vs, v, rfl, rfl, w2, Nat.lt_of_lt_of_le (by rw [w3.length]; exact hz) (line100 (Nat.le_refl _)), hk.nx _ _ _ _ _ r1 s1 (h1.append e4 w2 w3 p1) (he.mono s1)⟩
    · exact r1.elim
  · exact ht.elim
/-- the def's own list, as it stands, for good: tuple(found), sorted(found), return found .. -/
def dFrz (i : Nat) : DT := fun ds m R => match ds[i]?, m.ow with
  | some (some (.ref p)), some (q, xs) => p = q ∧ R (.lst xs) ⟨m.dk, none⟩
  | _, _ => False
theorem HeapOk.freeze {K : PySem.W.Frag} {G : Gh} {F : Hp} {m : M} {H : Hp} {p : Addr} {xs : List D} (h : HeapOk K G F m H) (e : m.ow = some (p, xs)) : ∃ F', Same F F' ∧ HeapOk K G F' ⟨m.dk, none⟩ H ∧ Rep K F' (.lst xs) (.ref p) := by
  obtain ⟨o1, o2, ⟨vs, o3, o5⟩, o4⟩ := h.ow p xs e
  have s1 : Same F (upd F p (.lst vs)) := fun b x e => by rw [upd_ne (ne_of_none e o1)]; exact e
  refine ⟨_, s1, { sub := fun b o e => ?_, subB := h.subB.trans s1, fresh := fun b o e => ?_, keep := h.keep, dk := fun d2 e2 => ?_, dkn := h.dkn, dk0 := h.dk0, ow := fun _ _ e => by cases e }, .lst (.inl (.inl upd_same)) (Reps.mono s1 _ _ o5)⟩
  · by_cases hb : b = p
    · subst hb
      rw [upd_same] at e
      cases e
      exact o3
    · rw [upd_ne hb] at e
      exact h.sub b o e
  · by_cases hb : b = p
    · subst hb
      exact .inr (.inl o2)
    · rw [upd_ne hb] at e
      exact h.fresh b o e
  · have e2 : m.dk = some d2 := e2
    obtain ⟨z1, z2⟩ := o4 d2 e2
    have w := h.dk d2 e2
    obtain ⟨_, _, _, _, _, _, h4, h5, _⟩ := id w
    exact w.stay s1 rfl rfl (by rw [upd_ne (Ne.symm z1)]; exact h4) (by rw [upd_ne (Ne.symm z2)]; exact h5)
theorem de_frz (i : Nat) {x : Str} {pos : Pos} (hN : X.N[i]? = some x := by rfl) (hv : Vis X.env.scope x := by first | exact Or.inl rfl | exact Or.inr (Or.inl rfl) | exact Or.inr (Or.inr rfl)) (hd : (x == ("__debug__" : Str)) = false := by decide)
    (hcd : (x == ("__classdict__" : Str)) = false := by decide) : DE X (.Name x pos) (dFrz i) :=
  pe_imp (pv i hN hv hd hcd) fun σ H Q ⟨ds, m, F, G, R, he, hh, ht, hk⟩ => by
    unfold dFrz at ht
    split at ht
    · rename_i p q xs e1 e2
      obtain ⟨rfl, ht⟩ := ht
      obtain ⟨v, e3, r3⟩ := he.get e1
      cases r3
      obtain ⟨F', s, h2, r⟩ := hh.freeze e2
      exact ⟨_, e3, hk _ _ _ F' H ht s h2 r⟩
    · exact ht.elim

/-! ### while -/
def sWhile (c : DTt) (tb : DTS) : DTS := fun E ds m => ∃ W : Nat → DEnv → M → Prop, (∃ n, W n ds m) ∧ ∀ n ds m, W n ds m →
  c ds m fun b m1 => if b = true then ∃ N : DEnv → M → Prop, (∀ ds' m', N ds' m' → ∃ n', n' < n ∧ W n' ds' m') ∧ tb ⟨N, E.rt, E.nx, N⟩ ds m1 else E.nx ds m1
theorem ds_while {c : Expr} {body : List Stmt} {tc : DTt} {tb : DTS} (hp : PassesOwn (model X.prog X.w) X.A X.env X.xe) (hc : DTs X c tc) (hb : DSs X body tb) : DS X (.While c body [] pos) (sWhile tc tb) := ps_imp (ps_while hp hc hb) fun Z σ H ⟨ds, m, F, G, E, he, hh, ⟨W, ⟨n0, w0⟩, turn⟩, hk⟩ => by
  refine ⟨fun n σ' H' => ∃ ds' m' F', ERep X.K F' ds' σ' ∧ HeapOk X.K G F' m' H' ∧ Same F F' ∧ W n ds' m', ⟨n0, ds, m, F, he, hh, Same.refl _, w0⟩, ?_⟩
  rintro n σ1 H1 ⟨ds1, m1, F1, he1, h1, s1, w1⟩
  refine ⟨ds1, m1, F1, G, _, he1, h1, turn n ds1 m1 w1, fun b m2 F2 H2 r2 s2 h2 => ?_⟩
  cases b with
  | true =>
    obtain ⟨N, hN, r2⟩ := r2
    refine ⟨fun σ' H' => ∃ ds' m' F', ERep X.K F' ds' σ' ∧ HeapOk X.K G F' m' H' ∧ Same F F' ∧ N ds' m', ?_, ?_⟩
    · rintro σ' H' ⟨ds', m', F', a1, a2, a3, a4⟩
      obtain ⟨n', b1, b2⟩ := hN ds' m' a4
      exact ⟨n', b1, ds', m', F', a1, a2, a3, b2⟩
    · have s12 := s1.trans s2
      exact ⟨ds1, m2, F2, G, _, he1.mono s2, h2, r2, ⟨fun ds' m' σ' F' H' a1 a2 a3 a4 => ⟨ds', m', F', a4, a3, s12.trans a2, a1⟩, hk.rt.mono s12, (fun ds' m' σ' F' H' a1 a2 a3 a4 => hk.nx ds' m' σ' F' H' a1 (s12.trans a2) a3 a4), fun ds' m' σ' F' H' a1 a2 a3 a4 => ⟨ds', m', F', a4, a3, s12.trans a2, a1⟩⟩⟩
  | false => exact hk.nx _ _ _ _ _ r2 (s1.trans s2) h2 (he1.mono s2)
end
end K23
/-! the data layer's rules: what is walked, for, comprehensions, a def's body -/
namespace K23
open PySem PySem.Spec PyProof.Rows L2

/-- an iterator that gives the items -/
structure IterOk (K : PySem.W.Frag) (F : Hp) (items : List D) (J : It) : Prop where
  ex : ∃ (Gd : Hp → Prop) (Y : Nat → Hp → V → Hp → Prop), Walk J items.length Gd Y ∧ (∀ H, Same F H → Gd H) ∧ ∀ i d H x H', items[i]? = some d → Y i H x H' → ∀ G m F2, Same F F2 → HeapOk K G F2 m H → ∃ F3, Same F2 F3 ∧ HeapOk K G F3 m H' ∧ Rep K F3 d x
abbrev DTi := DEnv → M → (List D → M → Prop) → Prop
def LI (K : PySem.W.Frag) (t : DTi) : TI := fun σ H R => ∃ ds m F G R', ERep K F ds σ ∧ HeapOk K G F m H ∧ t ds m R' ∧ ∀ items m' F' H' J, R' items m' → Same F F' → HeapOk K G F' m' H' → IterOk K F' items J → R J H'
abbrev DI (X : Cx) (tg e : Expr) (t : DTi) : Prop := PI X tg e (LI X.K t)
section
variable {X : Cx} {tg e : Expr} {te : DT}
theorem pi_imp {t t' : TI} (h : PI X tg e t) (w : ∀ σ H R, t' σ H R → t σ H R) : PI X tg e t' := ⟨fun pins s σ H R I hw => h.run pins s σ H R I (w σ H R hw)⟩
theorem iter_at {K : PySem.W.Frag} {F : Hp} {items : List D} {vs : List V} {J : It} {Gd : Hp → Prop} (r : Reps K F items vs) (w : Walk J vs.length Gd (YAt vs)) (hg : ∀ H, Same F H → Gd H) : IterOk K F items J := by
  rw [r.length] at w
  refine ⟨⟨Gd, _, w, hg, fun i d H x H' hi hy G m F2 s hh => ?_⟩⟩
  obtain ⟨rfl, hx⟩ := hy
  obtain ⟨v, e1, e2⟩ := r.get hi
  rw [hx] at e1
  cases e1
  exact ⟨F2, Same.refl _, hh, Rep.mono s _ _ e2⟩
/-- over a list, over a tuple -/
def iLst (te : DT) : DTi := fun ds m R => te ds m fun d m1 => match d with
  | .lst xs => R xs m1
  | _ => False
def iTupD (te : DT) : DTi := fun ds m R => te ds m fun d m1 => match d with
  | .tup xs => R xs m1
  | _ => False
theorem di_lst (he : DE X e te) : DI X tg e (iLst te) := pi_imp (pi_list he) fun σ H R ⟨ds, m, F, G, R', he, hh, ht, hk⟩ => by
  refine ⟨ds, m, F, G, _, he, hh, ht, fun d m1 v F1 H1 r1 s1 h1 p1 => ?_⟩
  cases d with
  | lst xs =>
    cases p1 with
    | lst s r => exact ⟨_, rfl, ⟨_, h1.sub.seq s⟩, hk xs m1 F1 H1 _ r1 s1 h1 (iter_at r walk_list fun H q => q.seq s)⟩
  | _ => exact r1.elim
theorem di_tup (he : DE X e te) : DI X tg e (iTupD te) := pi_imp (pi_tup he) fun σ H R ⟨ds, m, F, G, R', he, hh, ht, hk⟩ => by
  refine ⟨ds, m, F, G, _, he, hh, ht, fun d m1 v F1 H1 r1 s1 h1 p1 => ?_⟩
  cases d with
  | tup xs =>
    cases p1 with
    | tup s r => exact ⟨_, rfl, ⟨_, Same.seqT h1.sub s⟩, hk xs m1 F1 H1 _ r1 s1 h1 (iter_at r walk_tup fun H q => Same.seqT q s)⟩
  | _ => exact r1.elim
/-- over range(n) -/
def intsTo (n : Nat) : List D := (List.range n).map fun i => D.int (i : Nat)
def iRng (te : DT) : DTi := fun ds m R => te ds m fun d m1 => match d with
  | .int j => (0 ≤ j ∧ j < 1000000) ∧ R (intsTo j.toNat) m1
  | _ => False
theorem di_range {p pos : Pos} (hm : X.mg "range" = none) (he : DE X e te) (hg : Gl X "range" := by rfl) (hs : starEach [e] X.env = [(false, eval e X.env)] := by rfl) (hs2 : starEach [e] X.env = (false, eval e X.env) :: starEach [] X.env := by rfl) : DI X tg (.Call (.Name "range" p) [e] [] pos) (iRng te) := pi_imp (pi_range1 hg hm (pa_cons he pa_nil hs2) hs) fun σ H R ⟨ds, m, F, G, R', he, hh, ht, hk⟩ => by
  refine ⟨ds, m, F, G, _, he, hh, ht, fun d m1 v F1 H1 r1 s1 h1 p1 => ?_⟩
  cases d with
  | int j =>
    cases p1
    obtain ⟨⟨z1, z2⟩, r1⟩ := r1
    refine ⟨j, rfl, by omega, by omega, hk _ m1 F1 H1 _ r1 s1 h1 ⟨⟨fun _ => True, YFn fun i => .int (0 + i), ?_, fun _ _ => trivial, fun i d H x H' hi hy G m F2 s hh => ?_⟩⟩⟩
    · have hl : (intsTo j.toNat).length = j.toNat := by simp [intsTo]
      rw [hl]
      exact walk_range
    · obtain ⟨rfl, rfl⟩ := hy
      refine ⟨F2, Same.refl _, hh, ?_⟩
      unfold intsTo at hi
      rw [List.getElem?_map] at hi
      have hlt : i < j.toNat := by
        rcases Nat.lt_or_ge i j.toNat with z | z
        · exact z
        · rw [List.getElem?_eq_none (by simpa using z)] at hi
          cases hi
      rw [List.getElem?_range hlt] at hi
      cases hi
      show Rep X.K F2 (D.int (i : Int)) (V.int (0 + (i : Int)))
      rw [show (0 : Int) + (i : Int) = (i : Int) by omega]
      exact .int _
  | _ => exact r1.elim

/-! ### for -/
def dLoop (g : DTg) (tb : DTS) (E : DEnds) : List D → DEnv → M → Prop
  | [], ds, m => E.nx ds m
  | x :: xs, ds, m => g x ds fun ds1 => tb ⟨dLoop g tb E xs, E.rt, E.nx, dLoop g tb E xs⟩ ds1 m
def sFor (ti : DTi) (g : DTg) (tb : DTS) : DTS := fun E ds m => ti ds m fun items m1 => dLoop g tb E items ds m1
theorem drop_cons {α : Type} : ∀ {l : List α} {i : Nat}, i < l.length → ∃ x, l[i]? = some x ∧ l.drop i = x :: l.drop (i + 1)
  | x :: l, 0, _ => ⟨x, rfl, rfl⟩
  | x :: l, i + 1, h => by
    obtain ⟨y, h1, h2⟩ := drop_cons (l := l) (i := i) (by simpa using h)
    exact ⟨y, by simpa using h1, by simpa using h2⟩
theorem ds_for {body : List Stmt} {vs : List Nat} {ti : DTi} {g : DTg} {tb : DTS} {pos : Pos} (hp : PassesOwn (model X.prog X.w) X.A X.env X.xe) (hc : X.calm = true) (hi : DI X tg e ti) (hg : DG X tg vs g) (hb : DSs X body tb) (hs : ∀ x, foldedSetIterable e X.env x = pure x := by intro _; rfl) : DS X (.For tg e body [] pos) (sFor ti g tb) := ps_imp (ps_for hp hc hi hg hb hs) fun Z σ H ⟨ds, m, F, G, E, he, hh, ht, hk⟩ => by
  refine ⟨ds, m, F, G, _, he, hh, ht, fun items m1 F1 H1 J r1 s1 h1 hJ => ?_⟩
  obtain ⟨Gd, Y, w, hGd, hY⟩ := hJ.ex
  refine for_it w (fun i σ' H' => ∃ ds' m' F', ERep X.K F' ds' σ' ∧ HeapOk X.K G F' m' H' ∧ Same F1 F' ∧ dLoop g tb E (items.drop i) ds' m') ⟨ds, m1, F1, he.mono s1, h1, Same.refl _, r1⟩ ?_ ?_ ?_
  · rintro i σ' H' _ ⟨ds', m', F', _, a2, a3, _⟩
    exact hGd H' (a3.trans a2.sub)
  · rintro i x σ' H' H2 hi ⟨ds', m', F', a1, a2, a3, a4⟩ y
    obtain ⟨d, e1, e2⟩ := drop_cons hi
    rw [e2] at a4
    obtain ⟨F3, b1, b2, b3⟩ := hY i d H' x H2 e1 y G m' F' a3 a2
    have s13 := a3.trans b1
    have sF := s1.trans s13
    exact ⟨d, ds', m', F3, G, _, b3, a1.mono b1, b2, a4, fun ds2 σ2 r2 he2 _ => ⟨ds2, m', F3, G, _, he2, b2, r2, ⟨fun ds3 m3 σ3 F4 H4 c1 c2 c3 c4 => ⟨ds3, m3, F4, c4, c3, s13.trans c2, c1⟩, hk.rt.mono sF, (fun ds3 m3 σ3 F4 H4 c1 c2 c3 c4 => hk.nx _ _ _ _ _ c1 (sF.trans c2) c3 c4), fun ds3 m3 σ3 F4 H4 c1 c2 c3 c4 => ⟨ds3, m3, F4, c4, c3, s13.trans c2, c1⟩⟩⟩⟩
  · rintro σ' H' ⟨ds', m', F', a1, a2, a3, a4⟩
    rw [List.drop_eq_nil_of_le (Nat.le_refl _)] at a4
    exact hk.nx _ _ _ _ _ a4 (s1.trans a3) a2 a1

/-! ### comprehensions -/
abbrev DTsS (X : Cx) (ifs : List Expr) (t : DTt) : Prop := PTs X ifs (LT X.K t)
def tYesD : DTt := fun _ m R => R true m
theorem pts_imp {ifs : List Expr} {t t' : TT} (h : PTs X ifs t) (w : ∀ σ H Q, t' σ H Q → t σ H Q) : PTs X ifs t' := ⟨fun pins s σ H Q I hw => h.run pins s σ H Q I (w σ H Q hw)⟩
theorem dts_nil : DTsS X [] tYesD := pts_imp pts_nil fun σ H Q ⟨ds, m, F, G, R, he, hh, ht, hk⟩ => hk true m F H ht (Same.refl _) hh
theorem dts_one {c : Expr} {t : DTt} (h : DTs X c t) : DTsS X [c] t := pts_one h
/-- the items one by one; a turn's value is reckoned from a place of its own (the def's own list is out of sight) -/
def dLcL (vs : List Nat) (g : DTg) (tt : DTt) (te : DT) (R : D → M → Prop) (ds : DEnv) (ow : Option (Addr × List D)) : List D → List D → Option Dk → Prop
  | [], acc, k => R (.lst acc) ⟨k, ow⟩
  | x :: xs, acc, k => g x (wipeD ds vs) fun ds1 => tt ds1 ⟨k, none⟩ fun b m1 => if b = true then te ds1 m1 fun y m2 => acc.length < 100000 ∧ dLcL vs g tt te R ds ow xs (acc ++ [y]) m2.dk else dLcL vs g tt te R ds ow xs acc m1.dk
def dLc (ti : DTi) (g : DTg) (tt : DTt) (te : DT) (vs : List Nat) : DT := fun ds m R => ti ds m fun items m1 => dLcL vs g tt te R ds m1.ow items [] m1.dk
theorem HeapOk.poke {K : PySem.W.Frag} {G : Gh} {F : Hp} {m : M} {H : Hp} {p : Addr} {o : HO} (h : HeapOk K G F m H) (f : F p = none) (gb : G.B p = none) (dk : ∀ d, m.dk = some d → p ≠ d.a ∧ p ≠ d.b) (ow : ∀ q xs, m.ow = some (q, xs) → p ≠ q) : HeapOk K G F m (upd H p o) := by
  refine { sub := fun b o e => ?_, subB := h.subB, fresh := h.fresh, keep := fun b o e hd => ?_, dk := fun d e => ?_, dkn := h.dkn, dk0 := h.dk0, ow := fun q xs e => ?_ }
  · rw [upd_ne (ne_of_none e f)]
    exact h.sub b o e
  · rw [upd_ne (ne_of_none e gb)]
    exact h.keep _ o e hd
  · obtain ⟨z1, z2⟩ := dk d e
    have w := h.dk d e
    obtain ⟨_, _, _, _, _, _, h4, h5, _⟩ := id w
    exact w.stay (Same.refl _) (upd_ne (Ne.symm z1)) (upd_ne (Ne.symm z2)) h4 h5
  · obtain ⟨o1, o2, ⟨vs, o3, o5⟩, o4⟩ := h.ow q xs e
    exact ⟨o1, o2, ⟨vs, by rw [upd_ne (Ne.symm (ow q xs e))]; exact o3, o5⟩, o4⟩
theorem HeapOk.adopt {K : PySem.W.Frag} {G : Gh} {F : Hp} {m : M} {H : Hp} {p : Addr} {o : HO} (h : HeapOk K G F m H) (hp : H p = some o) (f : F p = none) (gb : G.B p = none) (dk : ∀ d, m.dk = some d → p ≠ d.a ∧ p ≠ d.b) (ow : ∀ q xs, m.ow = some (q, xs) → p ≠ q) : Same F (upd F p o) ∧ HeapOk K G (upd F p o) m H := by
  have s1 : Same F (upd F p o) := fun b x e => by rw [upd_ne (ne_of_none e f)]; exact e
  refine ⟨s1, { sub := fun b o e => ?_, subB := h.subB.trans s1, fresh := fun b o e => ?_, keep := h.keep, dk := fun d e => ?_, dkn := h.dkn, dk0 := h.dk0, ow := fun q xs e => ?_ }⟩
  · by_cases hb : b = p
    · subst hb
      rw [upd_same] at e
      cases e
      exact hp
    · rw [upd_ne hb] at e
      exact h.sub b o e
  · by_cases hb : b = p
    · subst hb
      exact .inr (.inl (by assumption))
    · rw [upd_ne hb] at e
      exact h.fresh b o e
  · obtain ⟨z1, z2⟩ := dk d e
    have w := h.dk d e
    obtain ⟨_, _, _, _, _, _, h4, h5, _⟩ := id w
    exact w.stay s1 rfl rfl (by rw [upd_ne (Ne.symm z1)]; exact h4) (by rw [upd_ne (Ne.symm z2)]; exact h5)
  · obtain ⟨o1, o2, ⟨vs, o3, o5⟩, o4⟩ := h.ow q xs e
    exact ⟨by rw [upd_ne (Ne.symm (ow q xs e))]; exact o1, o2, ⟨vs, o3, Reps.mono s1 _ _ o5⟩, o4⟩
theorem lc_ok {K : PySem.W.Frag} {ti : DTi} {g : DTg} {tt : DTt} {te : DT} {ws vs : List Nat} (hw : ∀ i ∈ ws, i ∈ vs) {σ : L2.St} {H : Hp} {Q : VK} (h : LE K (dLc ti g tt te vs) σ H Q) : tLc (LI K ti) (LG K ws g) (LT K tt) (LE K te) vs σ H Q := by
  obtain ⟨ds, m, F, G, R, he, hh, ht, hk⟩ := h
  refine ⟨ds, m, F, G, _, he, hh, ht, fun items m1 F1 H1 J r1 s1 h1 hJ D0 hD => ?_⟩
  obtain ⟨Gd, Y, w, hGd, hY⟩ := hJ.ex
  have he1 := he.mono s1
  refine lc_it w (fun i H' => ∃ F' k acc avs, HeapOk K G F' ⟨k, m1.ow⟩ H' ∧ Same F1 F' ∧ F' D0 = none ∧ G.B D0 = none ∧ (∀ d, k = some d → D0 ≠ d.a ∧ D0 ≠ d.b) ∧ (∀ p xs, m1.ow = some (p, xs) → D0 ≠ p) ∧ H' D0 = some (.lst avs) ∧ Reps K F' acc avs ∧ dLcL vs g tt te R ds m1.ow (items.drop i) acc k) ?_ ?_ ?_ ?_
  · refine ⟨F1, m1.dk, [], [], h1.junk hD, Same.refl _, h1.freshF hD, h1.freshB hD, fun d e => ?_, fun p xs e => ?_, upd_same, .nil, r1⟩
    · obtain ⟨_, _, _, q1, q2, _⟩ := h1.dk d e
      exact ⟨Ne.symm (ne_of_none q1 hD), Ne.symm (ne_of_none q2 hD)⟩
    · obtain ⟨_, _, ⟨_, q, _⟩, _⟩ := h1.ow p xs e
      exact Ne.symm (ne_of_none q hD)
  · rintro i H' _ ⟨F', k, acc, avs, a1, a2, _⟩
    exact hGd H' (a2.trans a1.sub)
  · rintro i x H' H2 hi ⟨F', k, acc, avs, a1, a2, a3, a4, a5, a6, a7, a8, a9⟩ y
    obtain ⟨d, e1, e2⟩ := drop_cons hi
    rw [e2] at a9
    obtain ⟨F3, b1, b2, b3⟩ := hY i d H' x H2 e1 y ⟨H', F', k⟩ ⟨k, none⟩ F' a2 a1.rebase
    have he3 := ((he1.mono a2).mono b1).wipe vs
    -- what a turn leaves behind
    have fin : ∀ (m2 : M) (F6 H6 : Hp), HeapOk K ⟨H', F', k⟩ F6 m2 H6 → HeapOk K G F6 ⟨m2.dk, m1.ow⟩ H6 ∧ Same F' F6 ∧ F6 D0 = none ∧ (∀ d, m2.dk = some d → D0 ≠ d.a ∧ D0 ≠ d.b) ∧ H6 D0 = some (.lst avs) := fun m2 F6 H6 h6 => by
      refine ⟨a1.unbase h6, h6.subB, h6.notF a7 a3, fun d e => ?_, h6.keep D0 _ a7 fun d e => a5 d e⟩
      cases ek : k with
      | none =>
        obtain ⟨z1, z2⟩ := h6.dkn d e ek
        exact ⟨ne_of_none a7 z1, ne_of_none a7 z2⟩
      | some d0 =>
        obtain ⟨d2, e3, ea, eb, _⟩ := h6.dk0 d0 ek
        rw [e] at e3
        cases e3
        obtain ⟨z1, z2⟩ := a5 d0 ek
        exact ⟨by rw [ea]; exact z1, by rw [eb]; exact z2⟩
    refine ⟨d, _, ⟨k, none⟩, F3, ⟨H', F', k⟩, _, b3, he3, b2, a9, fun ds2 σ2 r2 he2 hwp => ⟨?_, ds2, ⟨k, none⟩, F3, ⟨H', F', k⟩, _, he2, b2, r2, fun b m3 F4 H4 r4 s4 h4 => ?_⟩⟩
    · rw [hwp vs hw]
      exact wipe_wipe
    · cases b with
      | true =>
        refine ⟨ds2, m3, F4, ⟨H', F', k⟩, _, he2.mono s4, h4, r4, fun y m5 v F5 H5 r5 s5 h5 p5 => ?_⟩
        obtain ⟨q1, q2, q3, q4, q5⟩ := fin m5 F5 H5 h5
        have q6 : ∀ p xs, (⟨m5.dk, m1.ow⟩ : M).ow = some (p, xs) → D0 ≠ p := a6
        exact ⟨avs, q5, Nat.lt_of_lt_of_le (by rw [a8.length]; exact r5.1) (line100 (Nat.le_refl _)), F5, m5.dk, acc ++ [y], avs ++ [v], q1.poke q3 a4 q4 q6, a2.trans q2, q3, a4, q4, a6, upd_same, (Reps.mono q2 _ _ a8).append (.cons p5 .nil), r5.2⟩
      | false =>
        obtain ⟨q1, q2, q3, q4, q5⟩ := fin m3 F4 H4 h4
        exact ⟨F4, m3.dk, acc, avs, q1, a2.trans q2, q3, a4, q4, a6, q5, Reps.mono q2 _ _ a8, r4⟩
  · rintro H' ⟨F', k, acc, avs, a1, a2, a3, a4, a5, a6, a7, a8, a9⟩
    rw [List.drop_eq_nil_of_le (Nat.le_refl _)] at a9
    obtain ⟨s2, h2⟩ := a1.adopt a7 a3 a4 a5 a6
    exact hk _ _ _ _ _ a9 (s1.trans (a2.trans s2)) h2 (.lst (.inl (.inl upd_same)) (Reps.mono s2 _ _ a8))
theorem de_lc {elt tg2 iter : Expr} {ifs : List Expr} {scope : Scope} {own : List (Str × Nat)} {ws : List Nat} {pos : Pos} {ti : DTi} {g : DTg} {tt : DTt} {te : DT} (hc : X.calm = true) (hN : X.N.Nodup) (hi : DI X tg2 iter ti) (ok : BlkOk X.N X.env.scope scope own) (hw : ∀ i ∈ ws, i ∈ own.map (·.2))
    (hg : ∀ (s : Shared) (H : Hp) (C : Addr) (cl : List (Str × Addr)) (fp : List Addr), DG (X.blk s H scope (compEnvC scope cl C X.env) fp) tg2 ws g) (ht : ∀ (s : Shared) (H : Hp) (C : Addr) (cl : List (Str × Addr)) (fp : List Addr), DTsS (X.blk s H scope (compEnvC scope cl C X.env) fp) ifs tt)
    (he : ∀ (s : Shared) (H : Hp) (C : Addr) (cl : List (Str × Addr)) (fp : List Addr), DE (X.blk s H scope (compEnvC scope cl C X.env) fp) elt te) (hs : ∀ x, foldedSetIterable iter X.env x = pure x := by intro _; rfl) :
    DE X (.ListComp elt [⟨tg2, iter, ifs, 0⟩] scope pos) (dLc ti g tt te (own.map (·.2))) := pe_imp (pe_lc hc hN hi ok hg ht he hs) fun _ _ _ h => lc_ok hw h
theorem ds_setLc (i : Nat) {y : Str} {py : Pos} {elt tg2 iter : Expr} {ifs : List Expr} {scope : Scope} {own : List (Str × Nat)} {ws : List Nat} {pos spos : Pos} {ti : DTi} {g : DTg} {tt : DTt} {te : DT} (hc : X.calm = true) (hN : X.N.Nodup) (hi : DI X tg2 iter ti) (ok : BlkOk X.N X.env.scope scope own) (hw : ∀ i ∈ ws, i ∈ own.map (·.2))
    (hg : ∀ (s : Shared) (H : Hp) (C : Addr) (cl : List (Str × Addr)) (fp : List Addr), DG (X.blk s H scope (compEnvC scope cl C X.env) fp) tg2 ws g) (ht : ∀ (s : Shared) (H : Hp) (C : Addr) (cl : List (Str × Addr)) (fp : List Addr), DTsS (X.blk s H scope (compEnvC scope cl C X.env) fp) ifs tt)
    (he : ∀ (s : Shared) (H : Hp) (C : Addr) (cl : List (Str × Addr)) (fp : List Addr), DE (X.blk s H scope (compEnvC scope cl C X.env) fp) elt te) (hs : ∀ x, foldedSetIterable iter X.env x = pure x := by intro _; rfl)
    (hy : X.N[i]? = some y := by rfl) (hyl : X.env.scope.names.lookup y = some .local := by rfl) (hsw : swapsWith (.ListComp elt [⟨tg2, iter, ifs, 0⟩] scope pos) (some (.Name y py)) spos.line X.env = pure true := by exact sw_true rfl rfl rfl (by decide +kernel)) :
    DS X (.Assign [.Name y py] (.ListComp elt [⟨tg2, iter, ifs, 0⟩] scope pos) spos) (sSet i (dLc ti g tt te (own.map (·.2)))) := ps_imp (ps_setLc hc hN hy hyl hsw hi ok hg ht he hs) fun Z σ H ⟨ds, m, F, G, E, he, hh, ht, hk⟩ =>
  lc_ok hw ⟨ds, m, F, G, _, he, hh, ht, fun d m1 v F1 H1 r1 s1 h1 p1 => hk.nx _ _ _ _ _ r1 s1 h1 ((he.mono s1).set (o := some d) (q := some v) p1 i)⟩
end

/-! ### a def's body -/
theorem fn_D {P : Program} {w : World} {K : PySem.W.Frag} {mg : Str → Option Value} {base : Heap} {x qual : Str} {params : Arguments} {body : List Stmt} {scope : Scope} {dvs : List V} {kws : List (Str × V)} {f : Addr} {fd : FuncData} {N ps : List Str} {k : Nat} {sp : DSp} {t : DTS}
    (Fu : FunD K x qual params body scope dvs kws f fd) (S : FnScope N ps scope)
    (hb : ∀ (cdv : Value) (A : Around) (outer : List Env) (s : Shared) (H : Hp) (E : XK), Room k (A.deeper (envOfC qual scope s.heap.objs.size f cdv)) → DSs (cxOf CX0 P w K mg base N qual scope f cdv A outer s H E).nox body t)
    (hs : ∀ (xs : List D) (m : M) (R : D → M → Prop), xs.length = ps.length → m.ow = none → sp xs m R → t ⟨fun _ m' => R .non m', R, fun _ _ => False, fun _ _ => False⟩ (startD N.length xs) m) :
    FnOk P w K mg base CX0 (k + 1) f fd ps (spD K ps.length sp) := by
  refine Fu.ok S (fun vs H Q E h => ?_) (fun cdv A outer s H vs Q E hr h => ⟨_, PSs.nox (hb cdv A outer s H E hr), ?_⟩)
  · obtain ⟨xs, m, F, G, R, h1, h2, _⟩ := h
    rw [h1.length, h2]
  · obtain ⟨xs, m, F, G, R, h1, h2, h3, h4, h5, h6⟩ := h
    exact ⟨_, m, F, G, _, ERep.start h1, h3, hs xs m R h2 h4 h5, ⟨fun ds' m' σ' F' H' r s hh he => h6 _ m' _ F' H' r s hh .non, h6, fun ds' m' σ' F' H' r => r.elim, fun ds' m' σ' F' H' r => r.elim⟩⟩
/-- .. as one that can be called, all parameters written -/
theorem cal_of {P : Program} {w : World} {K : PySem.W.Frag} {mg : Str → Option Value} {base : Heap} {f : Addr} {fd : FuncData} {ps : List Str} {k : Nat} {x : Str} {sp : DSp} (h : FnOk P w K mg base CX0 k f fd ps (spD K ps.length sp)) (hm : mg x = some (.ref f)) (hk : PySem.W.keepIn K (.ref f) = true) (hb : Binds K fd ps []) : Cal P w K mg base k x ps.length sp :=
  ⟨f, fd, ps, ps.length, [], [], [], sp, h, hm, hk, hb, .nil, fun _ => .nil, rfl, fun xs m R _ q => by rw [List.append_nil]; exact q⟩
end K23
/-! the data layer's rules: a def's own list, handed on by a call, joined, looked into -/
namespace K23
open PySem PySem.Spec PyProof.Rows L2
theorem HeapOk.ownWith {K : PySem.W.Frag} {G : Gh} {F : Hp} {m : M} {H : Hp} (h : HeapOk K G F m H) {p : Addr} {xs : List D} {vs : List V} (hp : H p = none) (r : Reps K F xs vs) : HeapOk K G F ⟨m.dk, some (p, xs)⟩ (upd H p (.lst vs)) := by
  have j := h.junk (o := .lst vs) hp
  refine { sub := j.sub, subB := j.subB, fresh := j.fresh, keep := j.keep, dk := j.dk, dkn := j.dkn, dk0 := j.dk0, ow := fun q ys e => ?_ }
  have e2 : (p, xs) = (q, ys) := Option.some.inj e
  cases e2
  refine ⟨h.freshF hp, h.freshB hp, ⟨vs, upd_same, r⟩, fun d e => ?_⟩
  obtain ⟨_, _, _, h1, h2, _⟩ := h.dk d e
  exact ⟨fun z => (by rw [z, h1] at hp; cases hp), fun z => (by rw [z, h2] at hp; cases hp)⟩
theorem HeapOk.unbaseOwn {K : PySem.W.Frag} {G : Gh} {F F' H H' : Hp} {m m' : M} {p : Addr} {ys : List D} (h : HeapOk K G F m H) (h' : HeapOk K ⟨H, F, m.dk⟩ F' m' H') (e : m'.ow = some (p, ys)) : HeapOk K G F' ⟨m'.dk, some (p, ys)⟩ H' := by
  have u := h.unbase h'
  refine { sub := u.sub, subB := u.subB, fresh := u.fresh, keep := u.keep, dk := u.dk, dkn := u.dkn, dk0 := u.dk0, ow := fun q zs e2 => ?_ }
  have e3 : (p, ys) = (q, zs) := Option.some.inj e2
  cases e3
  obtain ⟨o1, o2, o3, o4⟩ := h'.ow p ys e
  exact ⟨o1, h.freshB o2, o3, o4⟩
section
variable {X : Cx} {a b e : Expr} {ta tb : DT} {pos : Pos} {es : List Expr} {n : Nat} {t : DTa}
def dCallF (sp : DSp) (t : DTa) : DT := fun ds m R => t ds m fun xs m1 => sp xs ⟨m1.dk, none⟩ fun d m2 => match d, m2.ow with
  | .ref p, some (q, ys) => p = q ∧ R (.lst ys) ⟨m2.dk, m1.ow⟩
  | _, _ => False
theorem callF_ok {sp sp0 : DSp} {dd : List D} {dvs : List V} {N : Nat} (hd : ∀ F, Reps X.K F dd dvs) (hn : N = n + dd.length) (hs : ∀ xs m R, xs.length = n → sp xs m R → sp0 (xs ++ dd) m R) {σ : L2.St} {H : Hp} {Q : VK} (h : LE X.K (dCallF sp t) σ H Q) : tCall (spD X.K N sp0) dvs E0 (LA X.K n t) σ H Q := by
  obtain ⟨ds, m, F, G, R, he, hh, ht, hk⟩ := h
  refine ⟨ds, m, F, G, _, he, hh, ht, fun xs m1 vs F1 H1 r1 hl s1 h1 p1 => ?_⟩
  refine ⟨xs ++ dd, ⟨m1.dk, none⟩, F1, ⟨H1, F1, m1.dk⟩, _, p1.append (hd F1), by rw [List.length_append, hl, hn], h1.rebase, rfl, hs xs _ _ hl r1, fun d m2 v F2 H2 r2 s2 h2 p2 => ?_⟩
  split at r2
  · rename_i p q ys e
    obtain ⟨rfl, r2⟩ := r2
    cases p2
    obtain ⟨F3, s3, h3, p3⟩ := h2.freeze e
    exact hk _ _ _ F3 H2 r2 (s1.trans (s2.trans s3)) (HeapOk.unbase (m' := ⟨m2.dk, none⟩) h1 h3) p3
  · exact r2.elim
theorem de_callF {k j : Nat} {x : Str} {p : Pos} {e : Expr} {sp : DSp} (C : Cal X.prog X.w X.K X.mg X.base k x n sp) (hr : Room j X.A) (hkj : k ≤ j) (ha : DA X (e :: es) n t) (hg : Gl X x := by rfl) (hdb : (x == ("__debug__" : Str)) = false := by decide)
    (he : starEach (e :: es) X.env = (false, eval e X.env) :: starEach es X.env := by rfl) (hpl : (backTo pos (starEach es X.env)).any (·.1) = false := by rfl) : DE X (.Call (.Name x p) (e :: es) [] pos) (dCallF sp t) := by
  obtain ⟨f, fd, ps, N, dd, dvs, ds, sp0, hf, hm, hk, hb, hd, hr2, hn, hs⟩ := C.ex
  exact pe_imp (pe_call hf (hr.mono hkj) hg hm hk hb hd pass0 ha hdb he hpl) fun _ _ _ h => callF_ok hr2 hn hs h
def sOwnCall (i : Nat) (sp : DSp) (t : DTa) : DTS := fun E ds m => t ds m fun xs m1 => sp xs ⟨m1.dk, none⟩ fun d m2 => match d, m2.ow with
  | .ref p, some (q, ys) => p = q ∧ E.nx (ds.set i (some (.ref p))) ⟨m2.dk, some (p, ys)⟩
  | _, _ => False
theorem ds_ownCall (i : Nat) {k j : Nat} {x y : Str} {p pos' pos2 : Pos} {e : Expr} {sp : DSp} (hN : X.N.Nodup) (C : Cal X.prog X.w X.K X.mg X.base k y n sp) (hr : Room j X.A) (hkj : k ≤ j) (ha : DA X (e :: es) n t) (hi : X.N[i]? = some x := by rfl) (hx : Loc X.env.scope x := by first | exact Or.inl rfl | exact Or.inr rfl) (hs : swapsWith (.Call (.Name y p) (e :: es) [] pos2) (some (.Name x pos')) pos.line X.env = pure false := by rfl) (hf : X.fn x = true ∨ X.env.scope.names.lookup x = some .local := by first | exact Or.inl rfl | exact Or.inr rfl)
    (hg : Gl X y := by rfl) (hdb : (y == ("__debug__" : Str)) = false := by decide) (he : starEach (e :: es) X.env = (false, eval e X.env) :: starEach es X.env := by rfl) (hpl : (backTo pos2 (starEach es X.env)).any (·.1) = false := by rfl) : DS X (.Assign [.Name x pos'] (.Call (.Name y p) (e :: es) [] pos2) pos) (sOwnCall i sp t) := by
  obtain ⟨f, fd, ps, N, dd, dvs, ds, sp0, hf2, hm, hk, hb, hd, hr2, hn, hs2⟩ := C.ex
  refine ps_imp (ps_set (i := i) hN hi hx (pe_call hf2 (hr.mono hkj) hg hm hk hb hd pass0 ha hdb he hpl) hs hf) fun Z σ H ⟨ds, m, F, G, E, he, hh, ht, hk⟩ => ?_
  refine ⟨ds, m, F, G, _, he, hh, ht, fun xs m1 vs F1 H1 r1 hl s1 h1 p1 => ?_⟩
  refine ⟨xs ++ dd, ⟨m1.dk, none⟩, F1, ⟨H1, F1, m1.dk⟩, _, p1.append (hr2 F1), by rw [List.length_append, hl, hn], h1.rebase, rfl, hs2 xs _ _ hl r1, fun d m2 v F2 H2 r2 s2 h2 p2 => ?_⟩
  split at r2
  · rename_i p q ys e
    obtain ⟨rfl, r2⟩ := r2
    cases p2
    exact hk.nx _ _ _ _ _ r2 (s1.trans s2) (h1.unbaseOwn h2 e) ((he.mono (s1.trans s2)).set (o := some (.ref _)) (q := some (.ref _)) (.ref _) i)
  · exact r2.elim
def sOwnCat (i : Nat) (ta tb : DT) : DTS := fun E ds m => ta ds m fun x m1 => tb ds m1 fun y m2 => match x, y with
  | .lst xs, .lst ys => xs.length + ys.length ≤ 100000 ∧ ∀ p, E.nx (ds.set i (some (.ref p))) ⟨m2.dk, some (p, xs ++ ys)⟩
  | _, _ => False
theorem ds_ownCat (i : Nat) {x : Str} {pos' pos2 : Pos} (hN : X.N.Nodup) (ha : DE X a ta) (hb : DE X b tb) (hi : X.N[i]? = some x := by rfl) (hx : Loc X.env.scope x := by first | exact Or.inl rfl | exact Or.inr rfl) (hs : swapsWith (.BinOp a .Add b pos2) (some (.Name x pos')) pos.line X.env = pure false := by rfl) (hf : X.fn x = true ∨ X.env.scope.names.lookup x = some .local := by first | exact Or.inl rfl | exact Or.inr rfl) : DS X (.Assign [.Name x pos'] (.BinOp a .Add b pos2) pos) (sOwnCat i ta tb) :=
  ps_imp (ps_set (i := i) hN hi hx (pe_op op_catL ha hb) hs hf) fun Z σ H ⟨ds, m, F, G, E, he, hh, ht, hk⟩ => by
    refine ⟨ds, m, F, G, _, he, hh, ht, fun x m1 v F1 H1 r1 s1 h1 p1 => ⟨ds, m1, F1, G, _, he.mono s1, h1, r1, fun y m2 w F2 H2 r2 s2 h2 p2 => ?_⟩⟩
    have p1 := Rep.mono s2 _ _ p1
    split at r2
    · cases p1 with
      | lst q1 z1 =>
        cases p2 with
        | lst q2 z2 =>
          refine ⟨_, _, _, _, rfl, rfl, h2.sub.seq q1, h2.sub.seq q2, ?_, fun p hp => ?_⟩
          · rw [z1.length, z2.length]
            exact line100 r2.1
          · exact hk.nx _ _ _ _ _ (r2.2 p) (s1.trans s2) (h2.ownWith hp (z1.append z2)) ((he.mono (s1.trans s2)).set (o := some (.ref _)) (q := some (.ref _)) (.ref _) i)
    · exact r2.elim
/-- a pair not in the own list of pairs -/
def dNotInOwn (i : Nat) (ta : DT) : DTt := fun ds m R => ta ds m fun d m1 => match d, ds[i]?, m1.ow with
  | .tup [.int u, .int v], some (some (.ref p)), some (q, ys) => p = q ∧ ∃ ps : List (Int × Int), ys = ps.map dPr ∧ R (!decide ((u, v) ∈ ps)) m1
  | _, _, _ => False
theorem dt_notInOwn (i : Nat) {j : Nat} {x : Str} {px : Pos} (hr : Room j X.A) (ha : DE X a ta) (hN : X.N[i]? = some x := by rfl) (hv : Vis X.env.scope x := by first | exact Or.inl rfl | exact Or.inr (Or.inl rfl) | exact Or.inr (Or.inr rfl)) (hd : (x == ("__debug__" : Str)) = false := by decide) (hcd : (x == ("__classdict__" : Str)) = false := by decide)
    (hm : behindInMarks .NotIn (.Name x px) = false := by rfl) : DTs X (.Compare a [.NotIn] [.Name x px] pos) (dNotInOwn i ta) :=
  pt_imp (pt_cmpR (op_notInD (units65 hr)) ha (pv i hN hv hd hcd) hm) fun σ H Q ⟨ds, m, F, G, R, he, hh, ht, hk⟩ => by
    refine ⟨ds, m, F, G, _, he, hh, ht, fun d m1 v F1 H1 r1 s1 h1 p1 => ?_⟩
    split at r1
    · rename_i u v' p q ys e1 e2
      obtain ⟨rfl, ps, rfl, r1⟩ := r1
      obtain ⟨w, e3, r3⟩ := he.get e1
      cases r3
      obtain ⟨_, _, ⟨vs, w2, w3⟩, _⟩ := h1.ow _ _ e2
      have rl : Rep X.K H1 (.lst (ps.map dPr)) (.ref p) := .lst (.inl (.inl w2)) (Reps.mono h1.sub _ _ w3)
      have o2 : OkD 2 (.lst (ps.map dPr)) := .lst fun x hx => by
        obtain ⟨i, _, rfl⟩ := List.mem_map.mp hx
        exact okPr _ _
      refine ⟨_, e3, _, _, (okPr _ _).dp h1.sub p1, by have := o2.dp (Same.refl _) rl; simp only [toPy] at this; exact this, (okPr _ _).shaped (by decide), by have := o2.shaped (by decide); simp only [toPy] at this; exact this, ?_⟩
      rw [any_pr]
      exact ⟨_, rfl, hk _ m1 F1 H1 r1 s1 h1⟩
    · exact r1.elim
end
end K23
/-! zip(a, b, strict=True): a tuple and a tuple or a list -/
namespace K23
open PySem PySem.Spec PyProof.Rows L2
open PySem.Sem (wp)
/-- true: a tuple, false: a list -/
def itN (c : Bool) : String := match c with | true => "tuple_iterator" | false => "list_iterator"
def ItB (c : Bool) (h : Heap) (it l : Addr) (k : Nat) : Prop := match c with | true => h.IsTupleIter it l k | false => h.IsListIter it l k
def SqB (c : Bool) (K : PySem.W.Frag) (H : Hp) (a : Addr) (xs : List V) : Prop := match c with | true => SqT K H a xs | false => SqL K H a xs
def SeqB (c : Bool) (h : Heap) (a : Addr) (its : Array Value) : Prop := match c with | true => h.IsTuple a its | false => h.IsList a its
theorem ItB.at {c : Bool} {h h' : Heap} {it l : Addr} {k : Nat} (x : ItB c h it l k) (e : ∀ o, h.get? it = some o → h'.get? it = some o) : ItB c h' it l k := by
  cases c with
  | true => exact Heap.IsTupleIter.at (h := h) x e
  | false => exact Heap.IsListIter.at (h := h) x e
theorem ItB.obj {c : Bool} {h : Heap} {it l : Addr} {k : Nat} (x : ItB c h it l k) : ∃ o, h.get? it = some o ∧ ∀ v, o.data ≠ .cell v := by
  cases c with
  | true =>
    obtain ⟨o, e, _, d⟩ := (show h.IsTupleIter it l k from x)
    exact ⟨o, e, fun v q => by rw [d] at q; cases q⟩
  | false =>
    obtain ⟨o, e, _, d⟩ := (show h.IsListIter it l k from x)
    exact ⟨o, e, fun v q => by rw [d] at q; cases q⟩
theorem SqB.mono {c : Bool} {K : PySem.W.Frag} {H H' : Hp} {a : Addr} {xs : List V} (s : Same H H') (h : SqB c K H a xs) : SqB c K H' a xs := by
  cases c with
  | true => exact Same.sqT s h
  | false => exact s.seq h
theorem draws_B {prog : Program} {w : World} {A : Around} (c : Bool) (hh : A.handled = none) (it l : Addr) (hne : l ≠ it) (items : Array Value) :
    Draws prog w A it [it, l] items.size (fun i v => items[i]? = some v) (fun i h => ItB c h it l i ∧ SeqB c h l items) := by
  cases c with
  | true => exact draws_tuple hh it l hne items
  | false => exact Draws.list hh it l hne items
section
variable {X : Cx} {pins : List (Addr × Obj)} {σ : L2.St} {H : Hp} {s : Shared} {a : Addr} {xs : List V}
theorem Inv.seqB {c : Bool} (I : Inv X pins σ H s) (h : SqB c X.K H a xs) : ∃ its : List Value, Vals xs its ∧ SeqB c s.heap a its.toArray := by
  cases c with
  | true =>
    obtain ⟨its, r, p, _⟩ := I.tuple h
    exact ⟨its, r, p⟩
  | false =>
    obtain ⟨its, r, p, _⟩ := I.list h
    exact ⟨its, r, p.isList⟩
end
abbrev zsH1 (h : Heap) (l1 : Addr) : Heap := h.push { cls := .type "tuple_iterator", data := .fields #[.ref l1, .int 0 0] }
abbrev zsH2 (c : Bool) (h : Heap) (l1 l2 : Addr) : Heap := (zsH1 h l1).push { cls := .type (itN c), data := .fields #[.ref l2, .int 0 0] }
abbrev zsH3 (c : Bool) (h : Heap) (l1 l2 : Addr) : Heap := (zsH2 c h l1 l2).push { cls := .type "tuple", data := .seq #[.ref h.objs.size, .ref (zsH1 h l1).objs.size] }
abbrev zsH4 (c : Bool) (h : Heap) (l1 l2 : Addr) : Heap := (zsH3 c h l1 l2).push { cls := .type "tuple", data := .seq #[.none, .none] }
abbrev zsH5 (c : Bool) (h : Heap) (l1 l2 : Addr) : Heap := (zsH4 c h l1 l2).push { cls := .type "zip", data := .fields #[.none, .bool false, .bool true, .ref (zsH2 c h l1 l2).objs.size, .ref (zsH3 c h l1 l2).objs.size] }
theorem meets_zipS_new (c : Bool) (l1 l2 : Addr) (xs ys : Array Value) :
    Meets (Builtin.«zip.__new__» ⟨[.type "zip", .ref l1, .ref l2], kwS⟩) (fun _ R s => s.heap.IsTuple l1 xs ∧ SeqB c s.heap l2 ys ∧
      R (.ok (.ret (.ref (zsH4 c s.heap l1 l2).objs.size))) { s with heap := zsH5 c s.heap l1 l2 }) :=
  .of_wp fun prog w A R s h => by
    obtain ⟨hp, g, d, tk, os⟩ := s; obtain ⟨hl1, hl2, h⟩ := h
    have hsub := sub_zip
    have hL1 : Heap.IsTuple (Shared.heap ⟨hp, g, d, tk, os⟩) l1 xs := hl1
    cases c with
    | true =>
      have hL2 : Heap.IsTuple (Shared.heap ⟨hp.push { cls := .type "tuple_iterator", data := .fields #[.ref l1, .int 0 0] }, g, d, tk, os⟩) l2 ys := Heap.IsTuple.push hl2 _
      wp_walk using wpAny_pyIter_tuple hL1, wpAny_pyIter_tuple hL2
      exact ⟨_, rfl, h⟩
    | false =>
      have hL2 : Heap.IsList (Shared.heap ⟨hp.push { cls := .type "tuple_iterator", data := .fields #[.ref l1, .int 0 0] }, g, d, tk, os⟩) l2 ys := Heap.IsList.push hl2 _
      wp_walk using wpAny_pyIter_tuple hL1, wpAny_pyIter_list hL2
      exact ⟨_, rfl, h⟩
section
variable {prog : Program} {w : World} {A : Around} {E : Value → Shared → Prop} {s : Shared}
theorem call_zipS (c : Bool) {l1 l2 : Addr} {xs ys : Array Value} {Q : Value → Shared → Prop} (hl1 : s.heap.IsTuple l1 xs) (hl2 : SeqB c s.heap l2 ys)
    (h : ∀ h', IsZipS h' (s.heap.objs.size + 4) (s.heap.objs.size + 2) (s.heap.objs.size + 3) .none → IsPair h' (s.heap.objs.size + 2) (.ref s.heap.objs.size) (.ref (s.heap.objs.size + 1)) →
      IsPair h' (s.heap.objs.size + 3) .none .none → h'.IsTupleIter s.heap.objs.size l1 0 → ItB c h' (s.heap.objs.size + 1) l2 0 → h'.objs.size = s.heap.objs.size + 5 →
      (∀ c o, s.heap.get? c = some o → h'.get? c = some o) → Q (.ref (s.heap.objs.size + 4)) { s with heap := h' }) :
    wpAny (model prog w) A (call (.type "zip") [.ref l1, .ref l2] kwS) Q E s := by
  refine callType_kw F.called_zip (by decide) (typeCall_zipS _ _) (newCall_zipS _ _) (fun obj => args_object_initS obj _ _) F.entry_zip_new
    (meets_zipS_new c l1 l2 xs ys) (by simp) ⟨hl1, hl2, ?_⟩
  have z1 : (zsH1 s.heap l1).objs.size = s.heap.objs.size + 1 := Heap.size_push ..
  have z2 : (zsH2 c s.heap l1 l2).objs.size = s.heap.objs.size + 2 := by rw [Heap.size_push, z1]
  have z3 : (zsH3 c s.heap l1 l2).objs.size = s.heap.objs.size + 3 := by rw [Heap.size_push, z2]
  have z4 : (zsH4 c s.heap l1 l2).objs.size = s.heap.objs.size + 4 := by rw [Heap.size_push, z3]
  have z5 : (zsH5 c s.heap l1 l2).objs.size = s.heap.objs.size + 5 := by rw [Heap.size_push, z4]
  have g5 : (zsH5 c s.heap l1 l2).get? (zsH4 c s.heap l1 l2).objs.size = some _ := Heap.get?_push_size _ rfl
  have g4 : (zsH5 c s.heap l1 l2).get? (zsH3 c s.heap l1 l2).objs.size = some _ := Heap.get?_push_of_some _ (Heap.get?_push_size _ rfl)
  have g3 : (zsH5 c s.heap l1 l2).get? (zsH2 c s.heap l1 l2).objs.size = some _ := Heap.get?_push_of_some _ (Heap.get?_push_of_some _ (Heap.get?_push_size _ rfl))
  have g2 : (zsH5 c s.heap l1 l2).get? (zsH1 s.heap l1).objs.size = some _ := Heap.get?_push_of_some _ (Heap.get?_push_of_some _ (Heap.get?_push_of_some _ (Heap.get?_push_size _ rfl)))
  have g1 : (zsH5 c s.heap l1 l2).get? s.heap.objs.size = some _ := Heap.get?_push_of_some _ (Heap.get?_push_of_some _ (Heap.get?_push_of_some _ (Heap.get?_push_of_some _ (Heap.get?_push_size _ rfl))))
  show _ ∧ _
  rw [z2, z3, z4] at g5
  rw [z1, z2] at g3
  rw [z3] at g4
  rw [z1] at g2
  rw [z4]
  refine ⟨⟨_, g5, rfl⟩, h _ g5 g3 g4 ⟨_, g1, rfl, rfl⟩ ?_ z5 fun c o x =>
    Heap.get?_push_of_some _ (Heap.get?_push_of_some _ (Heap.get?_push_of_some _ (Heap.get?_push_of_some _ (Heap.get?_push_of_some _ x))))⟩
  cases c with
  | true => exact ⟨_, g2, rfl, rfl⟩
  | false => exact ⟨_, g2, rfl, rfl⟩
theorem callWith_typeKw {pos : Pos} {T : String} {env : Env} {e : Expr} {rest : List Expr} {kws : List Keyword} {Q : Value → Shared → Prop}
    (h : wpAny (model prog w) A (spliced (backTo pos (starEach (e :: rest) env))) (fun vs s₁ => wpAny (model prog w) A (evalAll ((backToKw pos (keywordEach kws env)).map (·.2))) (fun ks s₂ => wpAny (model prog w) A (call (.type T) vs (((backToKw pos (keywordEach kws env)).filterMap (·.1)).zip ks)) Q E s₂) E s₁) E s)
    (he : starEach (e :: rest) env = (false, eval e env) :: starEach rest env) (hplain : (backTo pos (starEach rest env)).any (·.1) = false)
    (hall : (backToKw pos (keywordEach kws env)).all (·.1.isSome) = true) (hk : (backToKw pos (keywordEach kws env)).any (·.1.isNone) = false) :
    wpAny (model prog w) A (callWith pos (.type T) [] (backTo pos (starEach (e :: rest) env)) (backToKw pos (keywordEach kws env))) Q E s := by
  rw [he] at h ⊢
  have hst : (backTo pos ((false, eval e env) :: starEach rest env)).any (·.1) = false := by
    show (false || (backTo pos (starEach rest env)).any (·.1)) = false
    rw [hplain]
    rfl
  have h2 : wpAny (model prog w) A (evalArgs (.type T) true (backTo pos ((false, eval e env) :: starEach rest env)) (backToKw pos (keywordEach kws env))) (fun a s₁ => wpAny (model prog w) A (call (.type T) ([] ++ a.pos) a.kw) Q E s₁) E s := evalArgs_kw hall h
  unfold callWith
  refine wpAny_bind (wpAny_holding (wpAny_mono h2 (fun a s₁ h₁ => wpAny_bind (wpAny_standAt ?_)) fun _ _ x => x))
  simp only [hst, hk, Bool.or_false]
  refine wpAny_bind (wpAny_pure ?_)
  exact wpAny_bind (wpAny_mono h₁ (fun r s₂ hr => wpAny_bind (wpAny_holding (wpAny_point (wpAny_pure hr)))) fun _ _ x => x)
end
/-! ### as what a loop walks -/
def ItS (c : Bool) (K : PySem.W.Frag) (a b : Addr) (xs ys : List V) : It :=
  ⟨fun i H => i < xs.length ∧ xs.length = ys.length ∧ SqT K H a xs ∧ SqB c K H b ys,
    fun i H v H' => ∃ T x y, v = .ref T ∧ H T = none ∧ H' = upd H T (.tup [x, y]) ∧ xs[i]? = some x ∧ ys[i]? = some y,
    fun i H => i = xs.length ∧ xs.length = ys.length ∧ SqT K H a xs ∧ SqB c K H b ys⟩
theorem zapart_of {z TI TO i1 i2 a b : Addr} (D : ZipApart z TI TO i1 i2 a b) : ZApart z TI TO i1 i2 [i1, a] [i2, b] where
  TIz := D.TIz
  TOz := D.TOz
  i1z := D.i1z
  i2z := D.i2z
  TITO := D.TITO
  TIi1 := D.TIi1
  TIi2 := D.TIi2
  TOi1 := D.TOi1
  TOi2 := D.TOi2
  i12 := D.i12
  z1 := by simp [D.i1z.symm, D.l1z.symm]
  z2 := by simp [D.i2z.symm, D.l2z.symm]
  TO1 := by simp [D.TOi1, D.l1TO.symm]
  TO2 := by simp [D.TOi2, D.l2TO.symm]
  i21 := by simp [D.i12.symm, D.l1i2.symm]
  i1n := by simp [D.i12, D.l2i1.symm]
theorem turn_zipS {P : Program} {w : World} {K : PySem.W.Frag} {elts : List Expr} {kk : Nat} {tpos : Pos} {a b z TI TO i1 i2 : Addr} (c : Bool) (xs ys : List V) (D : ZipApart z TI TO i1 i2 a b) :
    Turn P w K (.Tuple elts kk tpos) (ItS c K a b xs ys) [z, TI, TO, i1, i2] z (fun i h => IsZipS h z TI TO .none ∧ IsPair h TI (.ref i1) (.ref i2) ∧ (∃ x y, IsPair h TO x y) ∧ h.IsTupleIter i1 a i ∧ ItB c h i2 b i) where
  mem := by simp
  obj := fun i h st d hd => by
    obtain ⟨hz, hTI, ⟨x, y, hTO⟩, ⟨o1, e1, _, d1⟩, h2⟩ := st
    obtain ⟨o2, e2, d2⟩ := h2.obj
    have e' : d = z ∨ d = TI ∨ d = TO ∨ d = i1 ∨ d = i2 := by simpa using hd
    rcases e' with q | q | q | q | q
    · rw [q]; exact ⟨_, hz, fun v q => nomatch q⟩
    · rw [q]; exact ⟨_, hTI, fun v q => nomatch q⟩
    · rw [q]; exact ⟨_, hTO, fun v q => nomatch q⟩
    · rw [q]; exact ⟨o1, e1, fun v q => by rw [d1] at q; cases q⟩
    · rw [q]; exact ⟨o2, e2, d2⟩
  keep := fun i h h' st k => by
    obtain ⟨hz, hTI, ⟨x, y, hTO⟩, h1, h2⟩ := st
    exact ⟨k z (by simp) _ hz, k TI (by simp) _ hTI, ⟨x, y, k TO (by simp) _ hTO⟩, h1.at fun o q => k i1 (by simp) o q, h2.at fun o q => k i2 (by simp) o q⟩
  item := by
    intro X hP hw hK hc i pins s σ H E I hf st hg
    subst hP hw hK
    obtain ⟨hz, hTI, ⟨x0, y0, hTO⟩, h1, h2⟩ := st
    obtain ⟨hlt, hlen, hqx, hqy⟩ := hg
    obtain ⟨its, rv, p, _⟩ := I.tuple hqx
    obtain ⟨its2, rv2, p2⟩ := Inv.seqB I hqy
    have l1 := rv.length
    have l2 := rv2.length
    have hx : xs[i]? = some xs[i] := List.getElem?_eq_getElem hlt
    have hy : ys[i]? = some (ys[i]'(by omega)) := List.getElem?_eq_getElem (by omega)
    obtain ⟨u, hu, ru⟩ := rv.get hx
    obtain ⟨u2, hu2, ru2⟩ := rv2.get hy
    have hzl : z < s.heap.objs.size := Heap.lt_size hz
    have hhd := I.ok.hd hc
    refine pyNext_zipS_item (zapart_of D) (draws_tuple (A := X.A.in1) hhd i1 a D.l1i1 its.toArray) (draws_B (A := X.A.in1) c hhd i2 b D.l2i2 its2.toArray) hz hTI hTO ⟨h1, p⟩ ⟨h2, p2⟩ (by simp; omega) (by simp; omega) fun v1 v2 h' tk pv1 pv2 z' TO' h1' h2' hT hsz hk => ?_
    have ev1 : v1 = u := by simpa [hu] using pv1.symm
    have ev2 : v2 = u2 := by simpa [hu2] using pv2.symm
    subst ev1 ev2
    refine ⟨_, rfl, letOwnedTupleGo_zipS (s := { s with heap := h', toks := tk }) z' fun h'' z'' sb => ?_⟩
    have hT2 : h''.get? s.heap.objs.size = some { cls := .type "tuple", data := .seq #[v1, v2] } := (sb.2 _ (Nat.ne_of_gt hzl)).trans hT
    have new : ObjOk X.prog X.w (upd H s.heap.objs.size (.tup [xs[i], ys[i]'(by omega)])) h'' s.heap.objs.size (.tup [xs[i], ys[i]'(by omega)]) :=
      ⟨by show 2 ≤ sizeLine; decide, [v1, v2], .cons ru (.cons ru2 .nil), ⟨_, hT2, rfl, _, rfl⟩⟩
    have I1 : Inv X pins σ (upd H s.heap.objs.size (.tup [xs[i], ys[i]'(by omega)])) { s with heap := h'', toks := tk } :=
      I.turnedNew (t' := tk) (ch := [z, TI, TO, i1, i2]) (fun c o hb q => (sb.2 c (fun q' => hb (by simp [q']))).trans (hk c o (fun q' => hb (by simp [q'])) (fun q' => hb (by simp [q'])) (fun q' => hb (by simp [q'])) (fun q' => hb (by simp [q'])) q)) hf (Nat.le_refl _) new
    refine ⟨.ref s.heap.objs.size, _, I1, rfl, ⟨_, _, _, rfl, I.hok.fresh (Nat.le_refl _), rfl, hx, hy⟩, ⟨z'', ?_, ⟨v1, v2, ?_⟩, ?_, ?_⟩, fun d hcm => ?_⟩
    · exact (sb.2 _ D.TIz).trans (hk _ _ D.TIz D.TITO D.TIi1 D.TIi2 hTI)
    · exact (sb.2 _ D.TOz).trans TO'
    · exact h1'.1.at fun o q => (sb.2 _ D.i1z).trans q
    · exact h2'.1.at fun o q => (sb.2 _ D.i2z).trans q
    · have hlt : d < s.heap.objs.size := by
        have e' : d = z ∨ d = TI ∨ d = TO ∨ d = i1 ∨ d = i2 := by simpa using hcm
        rcases e' with q | q | q | q | q
        · rw [q]; exact hzl
        · rw [q]; exact Heap.lt_size hTI
        · rw [q]; exact Heap.lt_size hTO
        · rw [q]; obtain ⟨_, e1, _⟩ := h1; exact Heap.lt_size e1
        · rw [q]; obtain ⟨_, e2, _⟩ := h2.obj; exact Heap.lt_size e2
      rw [upd_ne (Nat.ne_of_lt hlt)]
      exact (hf d hcm).1
  done := by
    intro X hP hw hK hc i pins s σ H E I hf st hg
    subst hP hw hK
    obtain ⟨hz, hTI, ⟨x0, y0, hTO⟩, h1, h2⟩ := st
    obtain ⟨hi, hlen, hqx, hqy⟩ := hg
    subst hi
    obtain ⟨its, rv, p, _⟩ := I.tuple hqx
    obtain ⟨its2, rv2, p2⟩ := Inv.seqB I hqy
    have l1 := rv.length
    have l2 := rv2.length
    have hhd := I.ok.hd hc
    have e1 : its.toArray.size = xs.length := by simp; omega
    have e2 : its2.toArray.size = xs.length := by simp; omega
    have d1 := draws_tuple (prog := X.prog) (w := X.w) (A := X.A.in1) hhd i1 a D.l1i1 its.toArray
    have d2 := draws_B (prog := X.prog) (w := X.w) (A := X.A.in1) c hhd i2 b D.l2i2 its2.toArray
    rw [e1] at d1
    rw [e2] at d2
    exact pyNext_zipS_end hhd (zapart_of D) d1 d2 hz hTI hTO ⟨h1, p⟩ ⟨h2, p2⟩ fun h' hk => ⟨rfl, I.turnedL (t' := s.toks) (ch := [z, TI, TO, i1, i2]) (fun c o hb q =>
      hk c o (fun q' => hb (by simp [q'])) (fun q' => hb (by simp [q'])) (fun q' => hb (by simp [q'])) (fun q' => hb (by simp [q'])) q) hf⟩
  self := fun A i s Q E st h => pyIter_zipS st.1 h
/-- zip(a tuple, a tuple or a list, strict=True) -/
def oZip : D → D → (List D → Prop) → Prop := fun x y R => match x, y with
  | .tup xs, .tup ys => xs.length = ys.length ∧ R (List.zipWith (fun u v => D.tup [u, v]) xs ys)
  | .tup xs, .lst ys => xs.length = ys.length ∧ R (List.zipWith (fun u v => D.tup [u, v]) xs ys)
  | _, _ => False
theorem oZip_inv {x y : D} {R : List D → Prop} (h : oZip x y R) : ∃ (c : Bool) (xs ys : List D), x = .tup xs ∧ y = (match c with | true => D.tup ys | false => D.lst ys) ∧ xs.length = ys.length ∧ R (List.zipWith (fun u v => D.tup [u, v]) xs ys) := by
  unfold oZip at h
  split at h
  · exact ⟨true, _, _, rfl, rfl, h⟩
  · exact ⟨false, _, _, rfl, rfl, h⟩
  · exact h.elim
def iZipD (ta tb : DT) : DTi := fun ds m R => ta ds m fun x m1 => tb ds m1 fun y m2 => oZip x y fun l => R l m2
section
variable {X : Cx} {e e2 : Expr} {ta tb : DT}
theorem iter_zipS {K : PySem.W.Frag} {F : Hp} {c : Bool} {a b : Addr} {xs ys : List D} {vs ws : List V} (r1 : Reps K F xs vs) (r2 : Reps K F ys ws) (q1 : SqT K F a vs) (q2 : SqB c K F b ws) (hl : xs.length = ys.length) : IterOk K F (List.zipWith (fun u v => D.tup [u, v]) xs ys) (ItS c K a b vs ws) := by
  have l1 := r1.length
  have l2 := r2.length
  refine ⟨⟨fun H => SqT K H a vs ∧ SqB c K H b ws, fun i H v H' => ∃ T x y, v = .ref T ∧ H T = none ∧ H' = upd H T (.tup [x, y]) ∧ vs[i]? = some x ∧ ws[i]? = some y, ?_, fun H s => ⟨Same.sqT s q1, q2.mono s⟩, ?_⟩⟩
  · have hn : (List.zipWith (fun u v => D.tup [u, v]) xs ys).length = vs.length := by
      rw [List.length_zipWith]
      omega
    rw [hn]
    exact ⟨fun i H hi q => ⟨hi, by omega, q.1, q.2⟩, fun H q => ⟨rfl, by omega, q.1, q.2⟩, fun _ _ _ _ _ _ y => y⟩
  · intro i d H x H' hi hy G m F2 s hh
    obtain ⟨T, v, w, rfl, hT, rfl, h1, h2⟩ := hy
    obtain ⟨dx, e1, p1⟩ := r1.getV h1
    obtain ⟨dy, e2, p2⟩ := r2.getV h2
    rw [List.getElem?_zipWith, e1, e2] at hi
    cases hi
    obtain ⟨s2, h3⟩ := hh.new (o := .tup [v, w]) hT
    exact ⟨_, s2, h3, .tup upd_same (.cons (Rep.mono (s.trans s2) _ _ p1) (.cons (Rep.mono (s.trans s2) _ _ p2) .nil))⟩
theorem di_zip {p pos kp kp2 tpos : Pos} {elts : List Expr} {kk j : Nat} (hc : X.calm = true) (hm : X.mg "zip" = none) (ha : DE X e ta) (hb : DE X e2 tb) (hg : Gl X "zip" := by rfl)
    (hs : starEach [e, e2] X.env = (false, eval e X.env) :: starEach [e2] X.env := by rfl) (hs2 : starEach [e2] X.env = (false, eval e2 X.env) :: starEach [] X.env := by rfl) (hpl : (backTo pos (starEach [e2] X.env)).any (·.1) = false := by rfl)
    (hcall : eval (.Call (.Name "zip" p) [e, e2] [⟨some "strict", .Constant (.bool true) j kp2, kp⟩] pos) X.env = (do callWith pos (← eval (.Name "zip" p) X.env) [] (backTo pos (starEach [e, e2] X.env)) (backToKw pos (keywordEach [⟨some "strict", .Constant (.bool true) j kp2, kp⟩] X.env))) := by rfl) :
    DI X (.Tuple elts kk tpos) (.Call (.Name "zip" p) [e, e2] [⟨some "strict", .Constant (.bool true) j kp2, kp⟩] pos) (iZipD ta tb) := by
  refine ⟨fun pins s σ H R I ⟨ds, m, F, G, R', he, hh, ht, hk⟩ => ?_⟩
  rw [hcall]
  refine wpAny_bind (ld_blt I hg hm PyProof.Rows.boot_zip ?_)
  refine callWith_typeKw (e := e) (rest := [e2]) ?_ hs hpl rfl rfl
  have hA : DA X [e, e2] 2 (dCons ta (dCons tb dNil)) := da_cons ha (da_cons hb da_nil hs2) hs
  have key : LA X.K 2 (dCons ta (dCons tb dNil)) σ H (fun vs H1 => ∃ (c : Bool) (a b : Addr) (xs ys : List V), vs = [.ref a, .ref b] ∧ SqT X.K H1 a xs ∧ SqB c X.K H1 b ys ∧ R (ItS c X.K a b xs ys) H1) := by
    refine ⟨ds, m, F, G, fun l m2 => match l with
      | [x, y] => oZip x y fun l => R' l m2
      | _ => False, he, hh, ht, fun l m2 vs F' H' r hl s1 h1 p1 => ?_⟩
    · obtain ⟨x, y, rfl⟩ : ∃ x y, l = [x, y] := by
        match l, hl with
        | [x, y], _ => exact ⟨x, y, rfl⟩
      obtain ⟨c, xs, ys, rfl, rfl, hlen, r5⟩ := oZip_inv (show oZip x y (fun l => R' l m2) from r)
      obtain ⟨v, w, ev, p, q⟩ := reps2 p1
      subst ev
      cases p with
      | tup q1 r1 =>
        cases c with
        | true =>
          cases q with
          | tup q2 r2 => exact ⟨true, _, _, _, _, rfl, Same.seqT h1.sub q1, Same.seqT h1.sub q2, hk _ m2 F' H' _ r5 s1 h1 (iter_zipS (c := true) r1 r2 (SqT.of q1) (SqT.of q2) hlen)⟩
        | false =>
          cases q with
          | lst q2 r2 => exact ⟨false, _, _, _, _, rfl, Same.seqT h1.sub q1, h1.sub.seq q2, hk _ m2 F' H' _ r5 s1 h1 (iter_zipS (c := false) r1 r2 (SqT.of q1) q2 hlen)⟩
  refine thn (hA.run pos pins s σ H _ I key) fun us s1 ⟨vs, H1, I1, r1, q1⟩ => ?_
  show wpAny _ _ (evalAll [do let v ← eval (.Constant (.bool true) j kp2) X.env; standAt pos; pure v]) _ _ _
  refine wpAny_evalAll_cons (wpAny_bind (Constant_bool (wpAny_bind (wpAny_standAt (wpAny_pure (wpAny_evalAll_nil ?_))))))
  show wpAny _ _ (call (.type "zip") us kwS) _ _ _
  obtain ⟨c, a, b, xs, ys, ex, hqx, hqy, q⟩ := q1
  subst ex
  obtain ⟨u1, u2, rfl, ra, rb⟩ := vals2 r1
  cases ra
  cases rb
  have fresh5 : ∀ c, c ∈ [s1.heap.objs.size + 4, s1.heap.objs.size + 2, s1.heap.objs.size + 3, s1.heap.objs.size, s1.heap.objs.size + 1] → FpOk X pins H1 c := fun c hcm => by
    have e' : c = s1.heap.objs.size + 4 ∨ c = s1.heap.objs.size + 2 ∨ c = s1.heap.objs.size + 3 ∨ c = s1.heap.objs.size ∨ c = s1.heap.objs.size + 1 := by simpa using hcm
    have hle : s1.heap.objs.size ≤ c := by omega
    exact I1.fpOk hle (I1.hok.fresh hle)
  obtain ⟨its, rv, p1, _⟩ := I1.tuple hqx
  obtain ⟨its2, rv2, p2⟩ := Inv.seqB I1 hqy
  have la : a < s1.heap.objs.size := by
    obtain ⟨o1, ho1, _⟩ := id p1
    exact Heap.lt_size ho1
  have lb : b < s1.heap.objs.size := by
    cases c with
    | true =>
      obtain ⟨o1, ho1, _⟩ := (show s1.heap.IsTuple b its2.toArray from p2)
      exact Heap.lt_size ho1
    | false =>
      obtain ⟨o1, ho1, _⟩ := (show s1.heap.IsList b its2.toArray from p2)
      exact Heap.lt_size ho1
  refine call_zipS c p1 p2 fun h' hz hTI hTO h1 h2 hsz hk2 => pyIter_zipS hz ?_
  have I2 : Inv X pins σ H1 { s1 with heap := h' } := I1.kept (t' := s1.toks) hk2
  exact ⟨s1.heap.objs.size + 4, [s1.heap.objs.size + 4, s1.heap.objs.size + 2, s1.heap.objs.size + 3, s1.heap.objs.size, s1.heap.objs.size + 1], _, _, H1, rfl, I2, turn_zipS c xs ys (PySem.W.ktu_apart s1.heap.objs.size a b la lb), ⟨hz, hTI, ⟨_, _, hTO⟩, h1, h2⟩, fresh5, q⟩
end
end K23
/-! enumerate(a tuple); first, *others = a tuple -/
namespace K23
open PySem PySem.Spec PyProof.Rows L2
open PySem.Sem (wp)
open AutoSeq1 (wpAny_loadPart')
theorem meets_enumerate_newT (l : Addr) (xs : Array Value) :
    Meets (Builtin.«enumerate.__new__» ⟨[.type "enumerate", .ref l], []⟩) (fun _ R s => s.heap.IsTuple l xs ∧
      R (.ok (.ret (.ref (s.heap.push { cls := .type "tuple_iterator", data := .fields #[.ref l, .int 0 0] }).objs.size)))
        { s with heap := (s.heap.push { cls := .type "tuple_iterator", data := .fields #[.ref l, .int 0 0] }).push { cls := .type "enumerate", data := .fields #[.none, .bool false, .ref s.heap.objs.size, rawInt 0, .none, .none] } }) :=
  .of_wp fun prog w A R s h => by
    obtain ⟨hp, g, d, tk, os⟩ := s; obtain ⟨hl, h⟩ := h
    have hsub := sub_enumerate
    have hL : Heap.IsTuple (Shared.heap ⟨hp, g, d, tk, os⟩) l xs := hl
    obtain ⟨o, ho, hc, n, hd⟩ := id hl
    obtain ⟨oc, od, dt, sl⟩ := o
    simp only at hc hd
    subst hc hd
    wp_walk using wpAny_loadPart' ho
    refine wpAny_stack_any fun st => wpAny_pure ?_
    split
    · rename_i c _ _ _ _ _
      cases (c == Value.type "enumerate")
      · wp_walk using wpAny_loadPart' ho, wpAny_pyIter_tuple hL
        exact ⟨_, rfl, h⟩
      · wp_walk using wpAny_loadPart' ho, wpAny_pyIter_tuple hL
        exact ⟨_, rfl, h⟩
    · wp_walk using wpAny_loadPart' ho, wpAny_pyIter_tuple hL
      exact ⟨_, rfl, h⟩
theorem call_enumerate_tuple {prog : Program} {w : World} {A : Around} {E : Value → Shared → Prop} {s : Shared} {l : Addr} {xs : Array Value} {Q : Value → Shared → Prop} (hL : s.heap.IsTuple l xs)
    (h : ∀ h', IsEnum h' (s.heap.objs.size + 1) s.heap.objs.size 0 .none → h'.IsTupleIter s.heap.objs.size l 0 → h'.objs.size = s.heap.objs.size + 2 →
      (∀ b o, s.heap.get? b = some o → h'.get? b = some o) → Q (.ref (s.heap.objs.size + 1)) { s with heap := h' }) :
    wpAny (model prog w) A (call (.type "enumerate") [.ref l]) Q E s := by
  refine callType_new F.called_enumerate (by decide) (F.typeCall_enumerate_1 _) (F.newCall_enumerate_1 _) (fun obj => F.args_object_init_2 obj _) F.entry_enumerate_new
    (meets_enumerate_newT l xs) ⟨hL, ?_⟩
  have hz : (s.heap.push { cls := .type "tuple_iterator", data := .fields #[.ref l, .int 0 0] }).objs.size = s.heap.objs.size + 1 := Heap.size_push ..
  show _ ∧ _
  rw [hz]
  have he : IsEnum ((s.heap.push { cls := .type "tuple_iterator", data := .fields #[.ref l, .int 0 0] }).push
      { cls := .type "enumerate", data := .fields #[.none, .bool false, .ref s.heap.objs.size, rawInt 0, .none, .none] }) (s.heap.objs.size + 1) s.heap.objs.size 0 .none := by
    have := Heap.get?_push_size (s.heap.push { cls := .type "tuple_iterator", data := .fields #[.ref l, .int 0 0] })
      (o := { cls := .type "enumerate", data := .fields #[.none, .bool false, .ref s.heap.objs.size, rawInt 0, .none, .none] }) rfl
    rw [hz] at this; exact this
  refine ⟨⟨_, he, rfl⟩, h _ he ⟨_, Heap.get?_push_of_some _ (Heap.get?_push_size _ rfl), rfl, rfl⟩ (by rw [Heap.size_push, hz]) fun b o x => Heap.get?_push_of_some _ (Heap.get?_push_of_some _ x)⟩
def ItEn (K : PySem.W.Frag) (a : Addr) (xs : List V) : It :=
  ⟨fun i H => i < xs.length ∧ SqT K H a xs,
    fun i H v H' => ∃ T x, v = .ref T ∧ H T = none ∧ H' = upd H T (.tup [.int (i : Nat), x]) ∧ xs[i]? = some x,
    fun i H => i = xs.length ∧ SqT K H a xs⟩
theorem turn_enumT {P : Program} {w : World} {K : PySem.W.Frag} {elts : List Expr} {kk : Nat} {tpos : Pos} (a e it : Addr) (xs : List V) :
    Turn P w K (.Tuple elts kk tpos) (ItEn K a xs) [e, it] e (fun i h => (∃ old, IsEnum h e it ((i : Nat) : Int) old) ∧ h.IsTupleIter it a i ∧ e ≠ it ∧ e ≠ a ∧ a ≠ it) where
  mem := by simp
  obj := fun i h st b hb => by
    obtain ⟨⟨old, he⟩, ⟨o, ho, hc, hd⟩, _⟩ := st
    have e' : b = e ∨ b = it := by simpa using hb
    rcases e' with z | z
    · rw [z]; exact ⟨_, he, fun v q => nomatch q⟩
    · rw [z]; exact ⟨o, ho, fun v q => by rw [hd] at q; cases q⟩
  keep := fun i h h' st k => let ⟨⟨old, he⟩, hi, hne⟩ := st; ⟨⟨old, k e (by simp) _ he⟩, hi.at fun o q => k it (by simp) o q, hne⟩
  item := by
    intro X hP hw hK hc i pins s σ H E I hf st hg
    subst hP hw hK
    obtain ⟨⟨old, he⟩, hit, hne, hea, hai⟩ := st
    obtain ⟨hlt, hq⟩ := hg
    obtain ⟨its, rv, p, hz⟩ := I.tuple hq
    have l1 := rv.length
    have hx : xs[i]? = some xs[i] := List.getElem?_eq_getElem hlt
    obtain ⟨u, hu, ru⟩ := rv.get hx
    have hel : e < s.heap.objs.size := Heap.lt_size he
    have hil : it < s.heap.objs.size := by obtain ⟨_, q, _⟩ := hit; exact Heap.lt_size q
    have hhd := I.ok.hd hc
    refine wpAny_pyNext_enum_itemD (draws_tuple (A := X.A.in1) hhd it a hai its.toArray) he ⟨hit, p⟩ (by simp; omega) hne (by simp [hne, hea]) fun v h' tk pv ho hit' hT hsz hk => ?_
    have ev : v = u := by simpa [hu] using pv.symm
    subst ev
    refine ⟨_, rfl, wpAny_letOwnedTupleGo_enum (s := { s with heap := h', toks := tk + 1 }) ho fun h'' he' sb => ?_⟩
    have hT2 : h''.get? s.heap.objs.size = some { cls := .type "tuple", data := .seq #[.int i tk, v] } := (sb.2 _ (Nat.ne_of_gt hel)).trans hT
    have new : ObjOk X.prog X.w (upd H s.heap.objs.size (.tup [.int (i : Nat), xs[i]])) h'' s.heap.objs.size (.tup [.int (i : Nat), xs[i]]) :=
      ⟨by show 2 ≤ sizeLine; decide, [.int i tk, v], .cons ⟨_, rfl⟩ (.cons ru .nil), ⟨_, hT2, rfl, _, rfl⟩⟩
    have I1 : Inv X pins σ (upd H s.heap.objs.size (.tup [.int (i : Nat), xs[i]])) { s with heap := h'', toks := tk + 1 } :=
      I.turnedNew (t' := tk + 1) (ch := [e, it]) (fun b ob hb q => (sb.2 b (fun z => hb (by simp [z]))).trans (hk b ob (fun z => hb (by simp [z])) (fun z => hb (by simp [z])) q)) hf (Nat.le_refl _) new
    refine ⟨.ref s.heap.objs.size, _, I1, rfl, ⟨_, _, rfl, I.hok.fresh (Nat.le_refl _), rfl, hx⟩, ⟨⟨v, ?_⟩, hit'.1.at fun o q => (sb.2 it (Ne.symm hne)).trans q, hne, hea, hai⟩, fun b hb => ?_⟩
    · have e1 : ((i + 1 : Nat) : Int) = (i : Int) + 1 := by omega
      rw [e1]; exact he'
    · have hb' : b < s.heap.objs.size := by
        have e' : b = e ∨ b = it := by simpa using hb
        rcases e' with z | z
        · rw [z]; exact hel
        · rw [z]; exact hil
      rw [upd_ne (Nat.ne_of_lt hb')]
      exact (hf b hb).1
  done := by
    intro X hP hw hK hc i pins s σ H E I hf st hg
    subst hP hw hK
    obtain ⟨⟨old, he⟩, hit, hne, hea, hai⟩ := st
    obtain ⟨hi, hq⟩ := hg
    subst hi
    obtain ⟨its, rv, p, hz⟩ := I.tuple hq
    have l1 := rv.length
    obtain ⟨f0, f1, f2, f3, f4, f5⟩ := hf it (by simp)
    have hhd := I.ok.hd hc
    have d1 := draws_tuple (prog := X.prog) (w := X.w) (A := X.A.in1) hhd it a hai its.toArray
    rw [show its.toArray.size = xs.length by simp; omega] at d1
    exact wpAny_pyNext_enum_endD d1 he ⟨hit, p⟩ fun h' eb => ⟨rfl, I.turned (t' := s.toks) (fun b o hb q => eb b o hb q) f0 f1 f3 f4 f5⟩
  self := fun A i s Q E st h => let ⟨⟨_, he⟩, _⟩ := st; wpAny_pyIter_enum he h
def oEnum : D → (List D → Prop) → Prop := fun x R => match x with
  | .tup xs => R ((List.range xs.length).zipWith (fun i d => D.tup [.int (i : Nat), d]) xs)
  | _ => False
def iEnumD (ta : DT) : DTi := fun ds m R => ta ds m fun x m1 => oEnum x fun l => R l m1
theorem iter_enum {K : PySem.W.Frag} {F : Hp} {a : Addr} {xs : List D} {vs : List V} (r1 : Reps K F xs vs) (q : F a = some (.tup vs)) : IterOk K F ((List.range xs.length).zipWith (fun i d => D.tup [.int (i : Nat), d]) xs) (ItEn K a vs) := by
  have l1 := r1.length
  refine ⟨⟨fun H => SqT K H a vs, fun i H v H' => ∃ T x, v = .ref T ∧ H T = none ∧ H' = upd H T (.tup [.int (i : Nat), x]) ∧ vs[i]? = some x, ?_, fun H s => Same.seqT s q, ?_⟩⟩
  · have hn : ((List.range xs.length).zipWith (fun i d => D.tup [.int (i : Nat), d]) xs).length = vs.length := by simp [l1]
    rw [hn]
    exact ⟨fun i H hi q => ⟨hi, q⟩, fun H q => ⟨rfl, q⟩, fun _ _ _ _ _ _ y => y⟩
  · intro i d H x H' hi hy G m F2 s hh
    obtain ⟨T, v, rfl, hT, rfl, h2⟩ := hy
    obtain ⟨dx, e1, p2⟩ := r1.getV h2
    have hlt : i < xs.length := (List.getElem?_eq_some_iff.mp e1).1
    rw [List.getElem?_zipWith, e1, List.getElem?_range hlt] at hi
    cases hi
    obtain ⟨s2, h3⟩ := hh.new (o := .tup [.int (i : Nat), v]) hT
    exact ⟨_, s2, h3, .tup upd_same (.cons (.int _) (.cons (Rep.mono (s.trans s2) _ _ p2) .nil))⟩
section
variable {X : Cx} {e : Expr} {ta : DT}
theorem di_enum {p pos tpos : Pos} {elts : List Expr} {kk : Nat} (hc : X.calm = true) (hm : X.mg "enumerate" = none) (ha : DE X e ta) (hg : Gl X "enumerate" := by rfl) (hs : starEach [e] X.env = [(false, eval e X.env)] := by rfl) (hs2 : starEach [e] X.env = (false, eval e X.env) :: starEach [] X.env := by rfl) :
    DI X (.Tuple elts kk tpos) (.Call (.Name "enumerate" p) [e] [] pos) (iEnumD ta) := by
  refine ⟨fun pins s σ H R I ⟨ds, m, F, G, R', he, hh, ht, hk⟩ => ?_⟩
  have hA : DA X [e] 1 (dCons ta dNil) := da_cons ha da_nil hs2
  have key : LA X.K 1 (dCons ta dNil) σ H (fun vs H1 => ∃ (a : Addr) (xs : List V), vs = [.ref a] ∧ SqT X.K H1 a xs ∧ R (ItEn X.K a xs) H1) := by
    refine ⟨ds, m, F, G, fun l m2 => match l with
      | [x] => oEnum x fun l => R' l m2
      | _ => False, he, hh, ht, fun l m2 vs F' H' r hl s1 h1 p1 => ?_⟩
    obtain ⟨x, rfl⟩ : ∃ x, l = [x] := by
      match l, hl with
      | [x], _ => exact ⟨x, rfl⟩
    obtain ⟨v, rfl, p⟩ := reps1 p1
    cases x with
    | tup xs =>
      cases p with
      | tup q r1 =>
        exact ⟨_, _, rfl, Same.seqT h1.sub q, hk _ m2 F' H' _ r s1 h1 (iter_enum r1 q)⟩
    | _ => exact r.elim
  refine Call_ (ld_blt I hg hm boot_enumerate (PyProof.Rows.callWith_type1 (thn (hA.run pos pins s σ H _ I key) fun us s1 ⟨vs, H1, I1, r1, q1⟩ => ?_) hs rfl))
  obtain ⟨a, xs, ex, hq, q⟩ := q1
  subst ex
  obtain ⟨u, rfl, ru⟩ := vals1 r1
  cases ru
  obtain ⟨its, rv, p', hz⟩ := I1.tuple hq
  have la : a < s1.heap.objs.size := by
    obtain ⟨o1, ho1, _⟩ := id p'
    exact Heap.lt_size ho1
  refine call_enumerate_tuple p' fun h' he hit hsz hk => wpAny_pyIter_enum he ?_
  have I2 : Inv X pins σ H1 { s1 with heap := h' } := I1.kept (t' := s1.toks) hk
  refine ⟨s1.heap.objs.size + 1, [s1.heap.objs.size + 1, s1.heap.objs.size], _, _, H1, rfl, I2, turn_enumT a (s1.heap.objs.size + 1) s1.heap.objs.size xs, ⟨⟨.none, he⟩, hit, Nat.succ_ne_self _, Ne.symm (Nat.ne_of_lt (Nat.lt_succ_of_lt la)), Nat.ne_of_lt la⟩, fun b hb => ?_, q⟩
  have e' : b = s1.heap.objs.size + 1 ∨ b = s1.heap.objs.size := by simpa using hb
  have hle : s1.heap.objs.size ≤ b := by
    rcases e' with z | z
    · rw [z]; exact Nat.le_add_right _ _
    · rw [z]; exact Nat.le_refl _
  exact I1.fpOk hle (I1.hok.fresh hle)
/-- x, *y = a tuple -/
def sStar (i j : Nat) (te : DT) : DTS := fun E ds m => te ds m fun d m1 => match d with
  | .tup (x :: xs) => E.nx ((ds.set i (some x)).set j (some (.lst xs))) m1
  | _ => False
end
end K23
/-! first, *others = a tuple -/
namespace K23
open PySem PySem.Spec PyProof.Rows L2
open PySem.Sem (wp)
section
variable {prog : Program} {w : World} {A : Around} {E : Value → Shared → Prop} {s : Shared} {env : Env}
theorem star_items {l : Addr} {u : Value} {us : List Value} {Q : List Value → Shared → Prop} (hl : IsTup s.heap l (u :: us).toArray) (hh : A.handled = none) (hz : (u :: us).length ≤ sizeLine)
    (h : ∀ D h' tk, (∀ b o, s.heap.get? b = some o → h'.get? b = some o) → s.heap.get? D = none → h'.get? D = some { cls := .type "list", data := .seq us.toArray } → Q [u, .ref D] { s with heap := h', toks := tk }) : wpAny (model prog w) A (unpackItems (.ref l) 2 (some 1)) Q E s := by
  have hlt : l ≠ s.heap.objs.size := by obtain ⟨o, ho, _⟩ := hl; exact Nat.ne_of_lt (Heap.lt_size ho)
  have hll : l < s.heap.objs.size := by obtain ⟨o, ho, _⟩ := hl; exact Heap.lt_size ho
  have hsz : (u :: us).toArray.size = us.length + 1 := by simp
  unfold unpackItems
  refine wpAny_bind ?_
  unfold notIterableAtAll
  refine wpAny_bind (wpAny_specialOf hl.typeIs slot_tuple_iter.lookup ?_)
  refine wpAny_pure ?_
  simp only [Bool.false_eq_true, if_false]
  refine wpAny_bind (wpAny_holding (iter_tuple hl ?_))
  refine wpAny_bind (wpAny_holding (draw_tuple hlt 1 0 _ _ ⟨_, Heap.get?_push_size _ rfl, rfl, rfl⟩ (hl.push _) (by omega) fun h₁ hit₁ hs₁ => ?_))
  have hl₁ : IsTup h₁ l (u :: us).toArray := (hl.push _).extBut hs₁.extBut hlt
  rw [Nat.zero_add] at hit₁
  obtain ⟨oi, hoi, _⟩ := id hit₁
  obtain ⟨ol, hol, _⟩ := id hl₁
  show wpAny _ _ (if ([u] : List Value).length < 1 then _ else _) _ _ _
  rw [if_neg (by simp)]
  refine wpAny_bind (wpAny_holding (PySem.W.kun_collect (s := { s with heap := h₁ }) (T := "tuple_iterator") (.inr (.inr (.inr rfl))) (Walks.tuple (A := A.in1) hh s.heap.objs.size l hlt (u :: us).toArray) (fun j u st => st.1.typeIs) (k := 1) (by omega) ⟨hit₁, hl₁⟩ (Heap.lt_size hoi) (Heap.lt_size hol) (fun h₂ tk hk => ?_) (by rw [hsz]; exact hz)))
  show wpAny _ _ (if us.length < 2 - 1 - 1 then _ else _) _ _ _
  rw [if_neg (by omega)]
  show wpAny _ _ (newList (us.take us.length) >>= fun d => pure ([u] ++ [d] ++ us.drop us.length)) _ _ _
  rw [List.take_length, List.drop_length]
  have he : ∀ b o, s.heap.get? b = some o → h₂.get? b = some o := fun b o e => by
    have hb : b ≠ s.heap.objs.size := Nat.ne_of_lt (Heap.lt_size e)
    exact hk b o hb (hs₁.extBut b o hb (Heap.get?_push_of_some _ e))
  have hsz2 : s.heap.get? h₂.objs.size = none := by
    cases e : s.heap.get? h₂.objs.size with
    | none => rfl
    | some o => exact absurd (Heap.lt_size (he _ o e)) (Nat.lt_irrefl _)
  unfold newList
  refine wpAny_bind (wpAny_newObj_type ?_ (by
    show us.toArray.size ≤ sizeLine
    have : us.length ≤ sizeLine := by rw [List.length_cons] at hz; omega
    simpa using this))
  exact wpAny_pure (h _ _ _ (fun b o e => Heap.get?_push_of_some _ (he b o e)) hsz2 (Heap.get?_push_size _ rfl))
end
theorem ok_there {P : Program} {w : World} {H : Hp} {h : Heap} {a : Addr} {o : HO} (x : ObjOk P w H h a o) : ∃ ob, h.get? a = some ob := by
  cases o with
  | lst xs => obtain ⟨_, _, _, _, e⟩ := x; exact ⟨_, e⟩
  | tup xs => obtain ⟨_, _, _, ob, e, _⟩ := x; exact ⟨_, e⟩
  | dK kvs => obtain ⟨_, _, _, _, o, _, _, e, _⟩ := x; exact ⟨_, e⟩
  | dT kvs => obtain ⟨_, _, _, _, o, _, _, e, _⟩ := x; exact ⟨_, e⟩
  | set S n => obtain ⟨o, _, _, _, e, _⟩ := x; exact ⟨_, e⟩
  | ins C dx fs => obtain ⟨_, _, _, e, _⟩ := x; exact ⟨_, e⟩
  | own y => exact x
  | xd fs => obtain ⟨_, ⟨_, _, _, e, _⟩, _⟩ := x; exact ⟨_, e⟩
  | rng lo hi => obtain ⟨_, _, _, e⟩ := x; exact ⟨_, e⟩
  | frz ob u => obtain ⟨e, _⟩ := x; exact ⟨_, e⟩
  | tbl ps => exact ⟨_, (show h.get? a = some _ from x)⟩
  | met f y => exact ⟨_, (show h.get? a = some _ from x)⟩
  | ext φ => obtain ⟨_, e, _⟩ := x; exact e
section
variable {X : Cx} {e : Expr} {te : DT} {pos : Pos}
theorem inv_laid {pins : List (Addr × Obj)} {σ : L2.St} {H : Hp} {s : Shared} {h' : Heap} {a : Addr} {o : HO} {t' : Nat} (I : Inv X pins σ H s) (k : ∀ b u, s.heap.get? b = some u → h'.get? b = some u) (hp : s.heap.get? a = none) (new : ObjOk X.prog X.w (upd H a o) h' a o) :
    H a = none ∧ Inv X pins σ (upd H a o) { s with heap := h', toks := t' } := by
  have hn : H a = none := by
    cases q : H a with
    | none => rfl
    | some u =>
      obtain ⟨ob, e⟩ := ok_there (I.hok a u q)
      rw [hp] at e
      cases e
  have ne : ∀ b u, s.heap.get? b = some u → b ≠ a := fun b u e z => by rw [z, hp] at e; cases e
  refine ⟨hn, I.un (t' := t') ⟨fun b u q _ _ _ => k b u q, fun b u q _ _ _ => ⟨u.slots, k b u q⟩, fun b u q n _ => ?_, fun b u q _ => ⟨u, k b u q⟩, fun b xs q => ?_, fun b u xs q => ?_, fun b ps q => ⟨#[], ?_⟩⟩ fun b u e => ?_⟩
  · rw [upd_ne (ne b u q)]; exact n
  · rw [upd_ne (ne_of_none q hn)]; exact q
  · rw [upd_ne (ne_of_none q hn)]; exact q
  · rw [upd_ne (ne_of_none q hn), q]; simp
  · by_cases hb : b = a
    · subst hb; rw [upd_same] at e; cases e; exact new
    · rw [upd_ne hb] at e
      exact (I.hok b u e).stay (fun c v _ q => k c v q) (fun c q => by rw [upd_ne (ne_of_none q hn)]; exact q) fun c xs q => by rw [upd_ne (ne_of_none q hn)]; exact q
/-- x, *y = a tuple -/
theorem ds_star (i j : Nat) {x y : Str} {px py pt ps : Pos} {kt : Nat} (hc : X.calm = true) (hN : X.N.Nodup) (he : DE X e te) (hi : X.N[i]? = some x := by rfl) (hj : X.N[j]? = some y := by rfl) (hx : X.env.scope.names.lookup x = some .local := by rfl) (hy : X.env.scope.names.lookup y = some .local := by rfl)
    (hs : swapsWithSole [.Tuple [.Name x px, .Starred (.Name y py) ps] kt pt] e pos.line X.env = pure false := by rfl) (hw : swappedStores [.Tuple [.Name x px, .Starred (.Name y py) ps] kt pt] e X.env = pure none := by rfl)
    (h1 : (assignEach [.Tuple [.Name x px, .Starred (.Name y py) ps] kt pt] X.env).map (·.2) = [assign (.Tuple [.Name x px, .Starred (.Name y py) ps] kt pt) X.env] := by rfl)
    (h2 : assignEach [.Name x px, .Starred (.Name y py) ps] X.env = [(false, assign (.Name x px) X.env), (true, assign (.Name y py) X.env)] := by rfl) :
    DS X (.Assign [.Tuple [.Name x px, .Starred (.Name y py) ps] kt pt] e pos) (sStar i j te) := by
  have hg : PG X (.Tuple [.Name x px, .Starred (.Name y py) ps] kt pt) (fun v σ H Q => ∃ a w ws, v = .ref a ∧ SqT X.K H a (w :: ws) ∧ ∀ D, H D = none → Q ((σ.set i (some w)).set j (some (.ref D))) (upd H D (.lst ws))) := by
    refine ⟨fun pins s σ H v u Q I r hq => ?_⟩
    obtain ⟨a, w, ws, rfl, hq, hk⟩ := hq
    cases r
    obtain ⟨its, rv, ht, hz⟩ := I.tuple hq
    cases rv with
    | cons r0 rr =>
      rename_i u0 us
      rw [assign_Tuple]
      refine wpAny_bind (wpAny_standAt ?_)
      unfold unpack
      rw [h2]
      refine wpAny_bind (wpAny_holding (star_items ht (I.ok.hd hc) (by rw [← (Vals.length (.cons r0 rr : Vals (w :: ws) (u0 :: us)))]; exact hz) fun D h' tk k1 k2 k3 => ?_))
      have hz2 : ws.length ≤ sizeLine := by
        rw [List.length_cons] at hz
        omega
      obtain ⟨hn, I2⟩ := inv_laid (t' := tk) I k1 k2 (o := .lst ws) ⟨hz2, us, _, rr, k3⟩
      show wpAny _ _ (assignInOrder [assign (.Name x px) X.env, assign (.Name y py) X.env] [u0, .ref D]) _ _ _
      refine assignInOrder_cons (wpAny_assign_Name (store_ok I2 hN hi (.inl hx) r0 (fun s3 I3 => ?_) (.inr hx)))
      refine assignInOrder_cons (wpAny_assign_Name (store_ok I3 hN hj (.inl hy) (show RelV (.ref D) (.ref D) from rfl) (fun s4 I4 => assignInOrder_nil ⟨_, _, I4, hk D hn⟩) (.inr hy)))
  refine ps_imp (ps_asg he hg hs hw h1) fun Z σ H ⟨ds, m, F, G, E, he, hh, ht, hk⟩ => ?_
  refine ⟨ds, m, F, G, _, he, hh, ht, fun d m1 v F1 H1 r1 s1 hh1 p1 => ?_⟩
  split at r1
  · rename_i d0 xs
    cases p1 with
    | tup q r =>
      cases r with
      | cons r0 rr =>
        refine ⟨_, _, _, rfl, Same.seqT hh1.sub q, fun D hD => ?_⟩
        obtain ⟨s2, h3⟩ := hh1.new (o := .lst _) hD
        exact hk.nx _ _ _ _ _ r1 (s1.trans s2) h3 ((((he.mono s1).mono s2).set (o := some _) (q := some _) (Rep.mono s2 _ _ r0) i).set (o := some (.lst xs)) (q := some (.ref D)) (.lst (.inl (.inl upd_same)) (Reps.mono s2 _ _ rr)) j)
  · exact r1.elim
end
end K23
/-! {way: True for way in ..}: a dict comprehension whose keys are tuples (turned from the library's own for flat keys) -/
namespace K23
open PySem PySem.Spec PyProof.Rows L2
theorem d_dictSetT {X : Cx} {pins : List (Addr × Obj)} {σ : L2.St} {H : Hp} {s : Shared} {E : Value → Shared → Prop} {D b : Addr} {kvs : List (List Key × V)} {k : List Key} {v : V} {u r : Value} {Q : Unit → Shared → Prop} (hu : X.A.units + 1 < cLine) (I : Inv X pins σ H s) (hD : H D = some (.dT kvs)) (eb : H b = some (.tup (k.map kV))) (hz : kvs.length < sizeLine)
    (ry : RelV (.ref b) u) (rv : RelV v r) (h : ∀ s', Inv X pins σ (upd H D (.dT (putK kvs k v))) s' → Q () s') : wpAny (model X.prog X.w) X.A (dictSet D u r) Q E s := by
  cases (show u = Value.ref b from ry)
  obtain ⟨z, hd, xs, rel, dd⟩ := dt_of I.hok hD
  have hzv : xs.length ≤ sizeLine := by rw [← Paired.length rel]; exact z
  have hl : (putK kvs k v).length ≤ sizeLine := by have := length_putK kvs k v; omega
  refine wpAny_dictSet_heap (hsz := hzv) (Nat.lt_of_succ_lt hu : X.A.units < cLine) (key_of I.hok eb) dd fun h' dd' hs => h _ ?_
  obtain ⟨q, es, ep, hq, h2, h3, h4, _, h5⟩ := dd'
  refine d_write I (by rw [hD]; exact True.intro) hs ⟨q, hq⟩ ⟨hl, hd, _, (rel.put k eb rv).keeps fun c ys ec => ?_, q, es, ep, hq, h2, h3, h4, h5⟩
  rw [upd_ne (ne_of ec hD (fun z => nomatch z))]
  exact ec
section
variable {X : Cx}
def tDcT (wi : TI) (g : TG) (tt : TT) (tk tv : TE) (vs : List Nat) : TE := fun σ H Q => wi σ H fun J H1 => ∀ D, H1 D = none → ∃ W : Nat → Nat → Hp → Prop, (∃ m, W 0 m (upd H1 D (.dT []))) ∧ ∀ i m H, W i m H →
  (J.stop i H ∧ Q (.ref D) H) ∨ (J.go i H ∧ ∃ Nx : Hp → Prop, (∀ H', Nx H' → ∃ m', m' < m ∧ W (i + 1) m' H') ∧ ∀ x H', J.yld i H x H' → g x (wipe σ vs) H' fun σ2 H2 => wipe σ2 vs = wipe σ vs ∧ tt σ2 H2 fun b H3 =>
    if b = true then tk σ2 H3 fun y H4 => tv σ2 H4 fun z H5 => ∃ kvs k b, y = .ref b ∧ H5 b = some (.tup (k.map kV)) ∧ H5 D = some (.dT kvs) ∧ kvs.length < sizeLine ∧ Nx (upd H5 D (.dT (putK kvs k z))) else Nx H3)
theorem dcT_core {pins : List (Addr × Obj)} {s : Shared} {σ : L2.St} {H : Hp} {Q : VK} {kx vx tg iter : Expr} {ifs : List Expr} {scope : Scope} {own : List (Str × Nat)} {pos pos' : Pos} {wi : TI} {g : TG} {tt : TT} {tk tv : TE} {use : Option (Value → Sem Unit)} {Qf : Value → Shared → Prop}
    (hu : X.A.units + 1 < cLine) (hc : X.calm = true) (hN : X.N.Nodup) (I : Inv X pins σ H s) (hi : PI X tg iter wi) (ok : BlkOk X.N X.env.scope scope own)
    (hg : ∀ (s : Shared) (H : Hp) (C : Addr) (cl : List (Str × Addr)) (fp : List Addr), PG (X.blk s H scope (compEnvC scope cl C X.env) fp) tg g) (ht : ∀ (s : Shared) (H : Hp) (C : Addr) (cl : List (Str × Addr)) (fp : List Addr), PTs (X.blk s H scope (compEnvC scope cl C X.env) fp) ifs tt)
    (hk : ∀ (s : Shared) (H : Hp) (C : Addr) (cl : List (Str × Addr)) (fp : List Addr), PE (X.blk s H scope (compEnvC scope cl C X.env) fp) kx tk)
    (he : ∀ (s : Shared) (H : Hp) (C : Addr) (cl : List (Str × Addr)) (fp : List Addr), PE (X.blk s H scope (compEnvC scope cl C X.env) fp) vx tv) (hs : ∀ x, foldedSetIterable iter X.env x = pure x)
    (h : tDcT wi g tt tk tv (own.map (·.2)) σ H Q)
    (hRR : ∀ D C s' m H', Inv X pins σ H' s' → Q (.ref D) H' → s'.heap.Ns C m → FpOk X pins H' C → compPost (model X.prog X.w) X.A X.xe use Qf (.ref D) C (.ok .next) s') :
    wpAny (model X.prog X.w) X.A (comprehension (.DictComp kx vx [⟨tg, iter, ifs, 0⟩] scope pos) scope X.env pos' newDict false (eval iter X.env) use) Qf X.xe s := by
  have hfree : ∀ y ∈ scope.names, y.2 = .free → ∃ c, X.env.cells.lookup y.1 = some c := fun y hy e => by
    rcases ok.free y hy e with k | k
    · exact I.ok.has _ (.inl k)
    · exact I.ok.has _ (.inr k)
  refine wpAny_comprehension_free (use := use) rfl hs (closure_ok hfree) ok.kind (fun y hy e => by rw [ok.uniq y hy, e])
    (thn (hi.run pins s σ H _ I h) fun xv s1 hx => thn hx fun itv s2 h2 => ?_)
  obtain ⟨it, fp, tn, J, H2, e, I2, T, st2, f2, q⟩ := h2
  subst e
  refine wpAny_newObj_type (newEnv_comp ?_)
  generalize hD : s2.heap.objs.size = D
  have hDn : H2 D = none := I2.hok.fresh (Nat.le_of_eq hD)
  obtain ⟨W, ⟨m0, w0⟩, turn⟩ := q D hDn
  -- the new list
  generalize hs3 : ({ s2 with heap := s2.heap.push { cls := .type "dict", data := .dict #[] } } : Shared) = s3
  have I3 : Inv X pins σ (upd H2 D (.dT [])) s3 := by
    rw [← hs3]
    refine I2.laid (t' := s2.toks) (fun b o e => Heap.get?_push_of_some _ e) (Nat.le_of_eq hD) ?_
    rw [← hD]
    exact dt_empty s2.heap I2.big
  have h3 : s3.heap = s2.heap.push { cls := .type "dict", data := .dict #[] } := by rw [← hs3]
  have sz : ∀ b ∈ fp, b < s2.heap.objs.size := fun b hb => by
    obtain ⟨o, e, _⟩ := T.obj _ _ st2 b hb
    exact Heap.lt_size e
  have f3 : ∀ b ∈ fp, FpOk X pins (upd H2 D (.dT [])) b ∧ b < s3.heap.objs.size := fun b hb => by
    have hlt := sz b hb
    refine ⟨⟨?_, (f2 b hb).2⟩, by rw [h3, Heap.size_push]; exact Nat.lt_succ_of_lt hlt⟩
    rw [upd_ne (by rw [← hD]; exact Nat.ne_of_lt hlt)]
    exact (f2 b hb).1
  have st3 : tn 0 s3.heap := T.keep _ _ _ st2 fun b _ o e => by rw [h3]; exact Heap.get?_push_of_some _ e
  have I4 := block_start I3 ok hN f3
  have pg := hg s3 (upd H2 D (.dT [])) s3.heap.objs.size (cellsFrom (s3.heap.objs.size + 1) scope.names (cloFrom X.env.cells scope.names [])) fp
  have pt := ht s3 (upd H2 D (.dT [])) s3.heap.objs.size (cellsFrom (s3.heap.objs.size + 1) scope.names (cloFrom X.env.cells scope.names [])) fp
  have pk := hk s3 (upd H2 D (.dT [])) s3.heap.objs.size (cellsFrom (s3.heap.objs.size + 1) scope.names (cloFrom X.env.cells scope.names [])) fp
  have pe := he s3 (upd H2 D (.dT [])) s3.heap.objs.size (cellsFrom (s3.heap.objs.size + 1) scope.names (cloFrom X.env.cells scope.names [])) fp
  show codeAny _ _ (.compStart (.DictComp kx vx [⟨tg, iter, ifs, 0⟩] scope pos) 0 (.ref it) (.ref D) (compEnvC scope (cellsFrom (s3.heap.objs.size + 1) scope.names (cloFrom X.env.cells scope.names [])) s3.heap.objs.size X.env)) (compPost (model X.prog X.w) X.A X.xe use Qf (.ref D) s3.heap.objs.size) { s3 with heap := pushCells (s3.heap.push { cls := .type "dict", data := .dict #[] }) scope.names }
  have nfp : ∀ b ∈ fp, (upd H2 D (.dT [])) b = none := fun b hb => (f3 b hb).1.1
  generalize hce : compEnvC scope (cellsFrom (s3.heap.objs.size + 1) scope.names (cloFrom X.env.cells scope.names [])) s3.heap.objs.size X.env = ce at I4 pg pt pk pe ⊢
  have cL : ce.locals = s3.heap.objs.size := by subst hce; rfl
  generalize hH3 : upd H2 D (.dT []) = H3 at I3 I4 pg pt pk pe w0 nfp f3
  generalize hs4 : ({ s3 with heap := pushCells (s3.heap.push { cls := .type "dict", data := .dict #[] }) scope.names } : Shared) = s4 at I4 ⊢
  have st4 : tn 0 s4.heap := T.keep _ _ _ st3 fun b _ o e => by rw [← hs4]; exact pushCells_keeps _ _ _ _ (Heap.get?_push_of_some _ e)
  have stat : ∀ {σ' : L2.St} {H' : Hp} {s' : Shared}, Inv (X.blk s3 H3 scope ce fp) [] σ' H' s' → (∀ b ∈ fp, H' b = none) → ∀ b ∈ fp, FpOk (X.blk s3 H3 scope ce fp) [] H' b := fun {σ' H' s'} I' hn b hb =>
    ⟨hn b hb, (I'.ok.exf b hb).1, I'.ok.exfs b hb, .inl hb, fun x c e => (I'.ok.exf b hb).2 x c e, fun p hp => absurd (show p ∈ ([] : List (Addr × Obj)) ++ [] from hp) (by simp)⟩
  have loop : codeAny (model X.prog X.w) X.A (.compLoop (.DictComp kx vx [⟨tg, iter, ifs, 0⟩] scope pos) 0 (.ref it) (.ref D) ce) (compPost (model X.prog X.w) X.A X.xe use Qf (.ref D) s3.heap.objs.size) s4 := by
    refine L2.compLoop_anyD (fun n s' => ∃ i H', Inv (X.blk s3 H3 scope ce fp) [] (wipe σ (own.map (·.2))) H' s' ∧ tn i s'.heap ∧ (∀ b ∈ fp, H' b = none) ∧ W i n H') ?_ m0 ⟨0, H3, I4, st4, nfp, w0⟩
    rintro n s5 ⟨i, H5, I5, st5, n5, w5⟩
    rcases turn i n H5 w5 with ⟨stop, qq⟩ | ⟨go, Nx, hNx, step⟩
    · have td := T.done (X.blk s3 H3 scope ce fp) rfl rfl rfl hc i [] s5 _ H5 (fun _ _ => False) I5 (stat I5 n5) st5 stop
      refine thnF td fun r s6 ⟨hr, I6⟩ => ?_
      subst hr
      -- back in the def's context
      have I7 : Inv X pins σ H5 s6 := I3.call' (ch := fp) I6.os I6.base I6.hok I6.bare fun b hb => ⟨(f3 b hb).1.2.2.2.1, (f3 b hb).1.2.1, (f3 b hb).1.2.2.2.2.1, (f3 b hb).1.2.2.2.2.2⟩
      have nC : H5 s3.heap.objs.size = none := by
        have z : H5 ce.locals = none := I6.free
        rw [cL] at z
        exact z
      obtain ⟨m, hn, _⟩ := I6.loc
      have hn : s6.heap.Ns ce.locals m := hn
      rw [cL] at hn
      exact hRR D s3.heap.objs.size s6 m H5 I7 qq hn (I3.fpOk (Nat.le_refl _) nC)
    · have ti := T.item (X.blk s3 H3 scope ce fp) rfl rfl rfl hc i [] s5 _ H5 (fun _ _ => False) I5 (stat I5 n5) st5 go
      refine thnF ti fun r s6 ⟨u, hr, h6⟩ => ?_
      subst hr
      refine thnF h6 fun _ s7 ⟨x, H7, I7, r7, y7, st7, n7⟩ => ?_
      have I7' := I7.pinned (stat I7 n7) (T.obj _ _ st7)
      refine thnF (pg.run _ s7 _ H7 x u _ I7' r7 (step x H7 y7)) fun _ s8 ⟨σ8, H8, I8, hw8, q8⟩ => ?_
      refine thnF (pt.run _ s8 σ8 H8 _ I8 q8) fun b s9 ⟨H9, I9, q9⟩ => ?_
      -- the turn's end
      have fin : ∀ {s' : Shared} {H' : Hp}, Inv (X.blk s3 H3 scope ce fp) ([] ++ pinsAt fp s7.heap) σ8 H' s' → Nx H' → ∃ m, m < n ∧ ∃ i H', Inv (X.blk s3 H3 scope ce fp) [] (wipe σ (own.map (·.2))) H' s' ∧ tn i s'.heap ∧ (∀ b ∈ fp, H' b = none) ∧ W i m H' := fun {s' H'} I' nx => by
        obtain ⟨m', hm, w'⟩ := hNx H' nx
        have pin' : ∀ b ∈ fp, ∀ o, s7.heap.get? b = some o → s'.heap.get? b = some o ∧ H' b = none := fun b hb o e =>
          let z := I'.pin (b, o) (List.mem_append_right _ (List.mem_append_right _ (mem_pinsAt hb e)))
          ⟨z.1, z.2.1⟩
        have hl : (wipe σ (own.map (·.2))).length = σ8.length := by rw [← hw8, wipe_length]
        refine ⟨m', hm, i + 1, H', (I'.unpinned (pins := [])).weak hl (fun j v e => ?_), T.keep _ _ _ st7 fun b hb o e => (pin' b hb o e).1, fun b hb => ?_, w'⟩
        · rw [← hw8] at e
          exact (wipe_some e).1
        · obtain ⟨o, e, _⟩ := T.obj _ _ st7 b hb
          exact (pin' b hb o e).2
      cases b with
      | false =>
        simp only [Bool.false_eq_true, if_false] at q9 ⊢
        exact fin I9 q9
      | true =>
        simp only [if_true] at q9 ⊢
        refine thnF (pk.run _ s9 σ8 H9 _ I9 q9) fun z s10 ⟨yk, H10, I10, r10, q10⟩ => ?_
        refine thnF (pe.run _ s10 σ8 H10 _ I10 q10) fun z2 s11 ⟨yv, H11, I11, r11, kvs, k, b, ek, eb, hD11, hz11, nx⟩ => ?_
        subst ek
        exact d_dictSetT (X := X.blk s3 H3 scope ce fp) hu I11 hD11 eb hz11 r10 r11 fun s12 I12 => fin I12 nx
  exact codeAny_compStart_dict loop (T.self X.A 0 _ _ _ st4 loop)
theorem pe_dcT {kx vx tg iter : Expr} {ifs : List Expr} {scope : Scope} {own : List (Str × Nat)} {pos : Pos} {wi : TI} {g : TG} {tt : TT} {tk tv : TE} (hu : X.A.units + 1 < cLine) (hc : X.calm = true) (hN : X.N.Nodup) (hi : PI X tg iter wi) (ok : BlkOk X.N X.env.scope scope own)
    (hg : ∀ (s : Shared) (H : Hp) (C : Addr) (cl : List (Str × Addr)) (fp : List Addr), PG (X.blk s H scope (compEnvC scope cl C X.env) fp) tg g) (ht : ∀ (s : Shared) (H : Hp) (C : Addr) (cl : List (Str × Addr)) (fp : List Addr), PTs (X.blk s H scope (compEnvC scope cl C X.env) fp) ifs tt)
    (hk : ∀ (s : Shared) (H : Hp) (C : Addr) (cl : List (Str × Addr)) (fp : List Addr), PE (X.blk s H scope (compEnvC scope cl C X.env) fp) kx tk)
    (he : ∀ (s : Shared) (H : Hp) (C : Addr) (cl : List (Str × Addr)) (fp : List Addr), PE (X.blk s H scope (compEnvC scope cl C X.env) fp) vx tv) (hs : ∀ x, foldedSetIterable iter X.env x = pure x := by intro _; rfl) :
    PE X (.DictComp kx vx [⟨tg, iter, ifs, 0⟩] scope pos) (tDcT wi g tt tk tv (own.map (·.2))) := by
  refine ⟨fun pins s σ H Q I h => ?_⟩
  rw [arm_eval_DictComp]
  refine dcT_core hu hc hN I hi ok hg ht hk he hs h fun D C s' m H' I' q hn f => ⟨m, hn, fun h'' sb => ?_⟩
  obtain ⟨f0, f1, f2, f3, f4, f5⟩ := f
  exact ⟨.ref D, H', I'.turned (t' := s'.toks) (fun b o hb e => (sb.2 b hb).trans e) f0 f1 f3 f4 f5, rfl, q⟩
theorem ps_setDcT {i : Nat} {y : Str} {py : Pos} {kx vx tg iter : Expr} {ifs : List Expr} {scope : Scope} {own : List (Str × Nat)} {pos spos : Pos} {wi : TI} {g : TG} {tt : TT} {tk tv : TE} (hu : X.A.units + 1 < cLine) (hc : X.calm = true) (hN : X.N.Nodup) (hy : X.N[i]? = some y) (hyl : X.env.scope.names.lookup y = some .local)
    (hsw : swapsWith (.DictComp kx vx [⟨tg, iter, ifs, 0⟩] scope pos) (some (.Name y py)) spos.line X.env = pure true) (hi : PI X tg iter wi) (ok : BlkOk X.N X.env.scope scope own)
    (hg : ∀ (s : Shared) (H : Hp) (C : Addr) (cl : List (Str × Addr)) (fp : List Addr), PG (X.blk s H scope (compEnvC scope cl C X.env) fp) tg g) (ht : ∀ (s : Shared) (H : Hp) (C : Addr) (cl : List (Str × Addr)) (fp : List Addr), PTs (X.blk s H scope (compEnvC scope cl C X.env) fp) ifs tt)
    (hk : ∀ (s : Shared) (H : Hp) (C : Addr) (cl : List (Str × Addr)) (fp : List Addr), PE (X.blk s H scope (compEnvC scope cl C X.env) fp) kx tk)
    (he : ∀ (s : Shared) (H : Hp) (C : Addr) (cl : List (Str × Addr)) (fp : List Addr), PE (X.blk s H scope (compEnvC scope cl C X.env) fp) vx tv) (hs : ∀ x, foldedSetIterable iter X.env x = pure x := by intro _; rfl) :
    PS X (.Assign [.Name y py] (.DictComp kx vx [⟨tg, iter, ifs, 0⟩] scope pos) spos) (tAsg (tDcT wi g tt tk tv (own.map (·.2))) (gName i)) := by
  refine ⟨fun pins s σ H D I h => ?_⟩
  rw [exec_Assign_Name_used _ _ _ _ hsw]
  refine wpAny_bind (wpAny_standAt (wpAny_bind ?_))
  show wpAny _ X.A (do let _ ← comprehension (.DictComp kx vx [⟨tg, iter, ifs, 0⟩] scope pos) scope X.env (firstIterPos [⟨tg, iter, ifs, 0⟩] pos) newDict false (eval iter X.env) (some (assign (.Name y py) X.env))) _ _ s
  have h : tDcT wi g tt tk tv (own.map (·.2)) σ H (fun x H1 => gName i x σ H1 D.nx) := h
  refine wpAny_bind (thn (dcT_core (Qf := fun _ s' => SP X pins D .next s') hu hc hN I hi ok hg ht hk he hs h fun L C s' m H' I' q hn f => ?_) fun _ s' hq => wpAny_pure (wpAny_pure hq))
  show wpAny _ _ (assign (.Name y py) X.env (.ref L)) _ _ _
  refine wpAny_assign_Name (store_ok2 (v := V.ref L) I' hN hy (.inl hyl) rfl (fun s2 I2 ⟨a, sb, ha⟩ => ?_) (.inr hyl))
  obtain ⟨f0, f1, f2, f3, f4, f5⟩ := f
  have haC : C ≠ a := by
    rcases ha with z | z
    · rw [z]; exact f1
    · exact fun e => f4 y a z e.symm
  refine ⟨m, hn.sameBut sb haC, fun h3 sb3 => ?_⟩
  exact ⟨_, H', I2.turned (t' := s2.toks) (fun b o hb e => (sb3.2 b hb).trans e) f0 f1 f3 f4 f5, q⟩
theorem sw_trueD {kx vx : Expr} {gs : List Comprehension} {scope : Scope} {pos py : Pos} {y : Str} {l : Nat} {env : Env} (hk : env.scope.kind = .function) (hy : env.scope.names.lookup y = some .local) (hl : (py.line == pos.line) = true)
    (ha : (scope.names.any fun (n, k) => n == y && (k == .local || k == .cell)) = false) : swapsWith (.DictComp kx vx gs scope pos) (some (.Name y py)) l env = pure true := by
  have ky : env.kindOf y = some .local := hy
  have hb : env.blockKind = .function := by unfold Env.blockKind; rw [hk]; rfl
  unfold swapsWith
  simp only [hb, ky, ha, Expr.pos, hl]
  rfl
end
end K23
/-! the mathematics: corners, ways, reaches; when ways span; a separating way among the sides -/
namespace K23
abbrev P2 := Int × Int
def dot (w x : P2) : Int := w.1 * x.1 + w.2 * x.2
def crs (u v : P2) : Int := u.1 * v.2 - u.2 * v.1
def neg (w : P2) : P2 := (-w.1, -w.2)
def sub (u v : P2) : P2 := (u.1 - v.1, u.2 - v.2)
def reachM : List P2 → P2 → Int
  | [], _ => 0
  | [c], w => dot w c
  | c :: d :: r, w => max (dot w c) (reachM (d :: r) w)
theorem reach_ge : ∀ {cs : List P2} {w c : P2}, c ∈ cs → dot w c ≤ reachM cs w
  | [], _, _, h => by cases h
  | [c], w, x, h => by
    have e : x = c := by simpa using h
    rw [e]
    exact Int.le_refl _
  | c :: d :: r, w, x, h => by
    unfold reachM
    rcases List.mem_cons.mp h with e | h
    · rw [e]; exact Int.le_max_left _ _
    · exact Int.le_trans (reach_ge h) (Int.le_max_right _ _)
theorem reach_mem : ∀ {cs : List P2} (w : P2), cs ≠ [] → ∃ c ∈ cs, reachM cs w = dot w c
  | [], _, h => absurd rfl h
  | [c], w, _ => ⟨c, by simp, rfl⟩
  | c :: d :: r, w, _ => by
    obtain ⟨x, hx, e⟩ := reach_mem (cs := d :: r) w (by simp)
    unfold reachM
    rcases Int.le_total (dot w c) (reachM (d :: r) w) with h | h
    · exact ⟨x, List.mem_cons_of_mem _ hx, by rw [Int.max_eq_right h, e]⟩
    · exact ⟨c, List.mem_cons_self, by rw [Int.max_eq_left h]⟩
theorem reach_uniq {cs : List P2} {w : P2} {k : Int} (h1 : ∃ c ∈ cs, k = dot w c) (h2 : ∀ c ∈ cs, dot w c ≤ k) : k = reachM cs w := by
  obtain ⟨c, hc, e⟩ := h1
  obtain ⟨x, hx, e2⟩ := reach_mem (cs := cs) w (fun z => by rw [z] at hc; cases hc)
  have a := reach_ge (w := w) hc
  have b := h2 x hx
  omega

/-! ### a rational vector's measure along a way -/
abbrev Q2 := Rat × Rat
def dq (w : P2) (z : Q2) : Rat := (w.1 : Rat) * z.1 + (w.2 : Rat) * z.2
/-- the gap when the other's place less the one's is z -/
def gapZ (one other : List P2) (w : P2) (z : Q2) : Rat := dq w z - ((reachM one w + reachM other (neg w) : Int) : Rat)

/-! ### cones -/
/-- around each direction two sides' ways and a corner that both reach -/
def Cone (cs W : List P2) : Prop := ∀ d : P2, d ≠ (0, 0) → ∃ n1 ∈ W, ∃ n2 ∈ W, ∃ p ∈ cs, (∀ c ∈ cs, dot n1 c ≤ dot n1 p) ∧ (∀ c ∈ cs, dot n2 c ≤ dot n2 p) ∧ 0 ≤ crs n1 d ∧ 0 ≤ crs d n2 ∧ 0 < crs n1 n2

theorem gapZ_le {one other : List P2} {w p q : P2} {z : Q2} (hp : p ∈ one) (hq : q ∈ other) : gapZ one other w z ≤ dq w (z.1 + (q.1 : Rat) - (p.1 : Rat), z.2 + (q.2 : Rat) - (p.2 : Rat)) := by
  have h1 := reach_ge (w := w) hp
  have h2 := reach_ge (w := neg w) hq
  have h3 : dot w p - dot w q ≤ reachM one w + reachM other (neg w) := by
    have e : dot (neg w) q = - dot w q := by unfold dot neg; simp only; grind
    omega
  have h4 : ((dot w p - dot w q : Int) : Rat) ≤ ((reachM one w + reachM other (neg w) : Int) : Rat) := Rat.intCast_le_intCast.mpr h3
  have h5 : ((dot w p - dot w q : Int) : Rat) = (w.1 : Rat) * p.1 + (w.2 : Rat) * p.2 - ((w.1 : Rat) * q.1 + (w.2 : Rat) * q.2) := by
    unfold dot
    push_cast
    rfl
  unfold gapZ dq
  grind
theorem gapZ_eq {one other : List P2} {w p q : P2} {z : Q2} (hp : p ∈ one) (hq : q ∈ other) (mp : ∀ c ∈ one, dot w c ≤ dot w p) (mq : ∀ c ∈ other, dot w q ≤ dot w c) : gapZ one other w z = dq w (z.1 + (q.1 : Rat) - (p.1 : Rat), z.2 + (q.2 : Rat) - (p.2 : Rat)) := by
  have h1 : dot w p = reachM one w := reach_uniq ⟨p, hp, rfl⟩ mp
  have hn : ∀ c, dot (neg w) c = - dot w c := fun c => by unfold dot neg; simp only; grind
  have h2 : dot (neg w) q = reachM other (neg w) := reach_uniq ⟨q, hq, rfl⟩ fun c hc => by
    have := mq c hc
    rw [hn, hn]
    omega
  have h3 : reachM one w + reachM other (neg w) = dot w p - dot w q := by
    rw [← h1, ← h2, hn]
    omega
  unfold gapZ dq
  rw [h3]
  unfold dot
  push_cast
  grind
end K23
/-! sizes; shares as rationals -/
namespace K23
/-! ### sizes -/
def B (n : Nat) (i : Int) : Prop := i.natAbs < 2 ^ n
def Bq (n : Nat) (q : Rat) : Prop := B n q.num ∧ q.den < 2 ^ n
def BW (n : Nat) (w : P2) : Prop := B n w.1 ∧ B n w.2
def Bs (n : Nat) (z : Q2) : Prop := Bq n z.1 ∧ Bq n z.2
theorem B.mono {n m : Nat} {i : Int} (h : B n i) (e : n ≤ m) : B m i := Nat.lt_of_lt_of_le h (Nat.pow_le_pow_right (by decide) e)
theorem B.mul {n m : Nat} {i j : Int} (h : B n i) (e : B m j) : B (n + m) (i * j) := by
  unfold B at *
  rw [Int.natAbs_mul, Nat.pow_add]
  have h1 := Nat.mul_lt_mul_of_lt_of_lt h e
  exact h1
theorem B.neg {n : Nat} {i : Int} (h : B n i) : B n (-i) := by unfold B at *; rw [Int.natAbs_neg]; exact h
theorem B.addM {n : Nat} {i j : Int} (h : B n i) (e : B n j) : B (n + 1) (i + j) := by
  unfold B at *
  have := Int.natAbs_add_le i j
  rw [Nat.pow_succ]
  omega
theorem B.add {n m : Nat} {i j : Int} (h : B n i) (e : B m j) : B (max n m + 1) (i + j) := (h.mono (Nat.le_max_left _ _)).addM (e.mono (Nat.le_max_right _ _))
theorem B.sub {n m : Nat} {i j : Int} (h : B n i) (e : B m j) : B (max n m + 1) (i - j) := by
  rw [Int.sub_eq_add_neg]
  exact h.add e.neg
theorem B.log {n : Nat} {i : Int} (h : B n i) : i.natAbs.log2 ≤ n := by
  unfold B at h
  by_cases z : i.natAbs = 0
  · rw [z]; simp
  · exact Nat.le_of_lt ((Nat.log2_lt z).mpr h)
theorem B.log' {n : Nat} {i : Int} (h : B n i) (hn : 0 < n) : i.natAbs.log2 < n := by
  unfold B at h
  by_cases z : i.natAbs = 0
  · rw [z]; simpa using hn
  · exact (Nat.log2_lt z).mpr h
theorem B.le {n : Nat} {i : Int} (h1 : -((2 : Int) ^ n) < i) (h2 : i < 2 ^ n) : B n i := by
  unfold B
  have e : ((2 ^ n : Nat) : Int) = 2 ^ n := by push_cast; rfl
  omega
theorem B.nat {n k : Nat} (h : k < 2 ^ n) : B n (k : Int) := by unfold B; simpa using h
theorem Bq.mono {n m : Nat} {q : Rat} (h : Bq n q) (e : n ≤ m) : Bq m q := ⟨h.1.mono e, Nat.lt_of_lt_of_le h.2 (Nat.pow_le_pow_right (by decide) e)⟩
theorem Bq.den {n : Nat} {q : Rat} (h : Bq n q) : B n (q.den : Int) := B.nat h.2
theorem BW.mono {n m : Nat} {q : P2} (h : BW n q) (e : n ≤ m) : BW m q := ⟨h.1.mono e, h.2.mono e⟩
theorem BW.neg {n : Nat} {q : P2} (h : BW n q) : BW n (neg q) := ⟨h.1.neg, h.2.neg⟩
theorem Bs.mono {n m : Nat} {q : Q2} (h : Bs n q) (e : n ≤ m) : Bs m q := ⟨h.1.mono e, h.2.mono e⟩

/-! ### lowest terms -/
/-- top and bottom in lowest terms, the bottom's sign kept -/
def cutM (t b : Int) : P2 := (t / (Int.gcd t b : Int), b / (Int.gcd t b : Int))
theorem gcd_pos {t b : Int} (h : t ≠ 0 ∨ b ≠ 0) : 0 < (Int.gcd t b : Int) := by
  have := (Int.gcd_pos_iff (a := t) (b := b)).mpr h
  omega
theorem divInt_cut {t b : Int} (hb : 0 < b) : (Rat.divInt t b).num = t / (Int.gcd t b : Int) ∧ ((Rat.divInt t b).den : Int) = b / (Int.gcd t b : Int) := by
  rw [Rat.num_divInt, Rat.den_divInt, if_neg (by omega), Int.sign_eq_one_of_pos hb, Int.one_mul, Int.gcd_comm b t]
  refine ⟨rfl, ?_⟩
  rw [Int.natCast_ediv]
  congr 1
  omega
theorem divInt_cutn {t b : Int} (hb : b < 0) : (Rat.divInt t b).num = (-t) / (Int.gcd t b : Int) ∧ ((Rat.divInt t b).den : Int) = (-b) / (Int.gcd t b : Int) := by
  have e : Rat.divInt t b = Rat.divInt (-t) (-b) := by rw [Rat.neg_divInt_neg]
  have := divInt_cut (t := -t) (b := -b) (by omega)
  rw [e, this.1, this.2, Int.gcd_neg, Int.neg_gcd]
  exact ⟨rfl, rfl⟩
theorem B_div {n : Nat} {i j : Int} (h : B n i) (hj : 0 < j) : B n (i / j) := by
  unfold B at *
  have : (i / j).natAbs ≤ i.natAbs := by
    have := Int.natAbs_ediv_le_natAbs i j
    exact this
  omega
theorem Bq_cut {n : Nat} {t b : Int} (h1 : B n t) (h2 : B n b) (hb : b ≠ 0) : Bq n (Rat.divInt t b) := by
  rcases Int.lt_or_gt_of_ne hb with z | z
  · have := divInt_cutn (t := t) z
    refine ⟨by rw [this.1]; exact B_div h1.neg (gcd_pos (.inr hb)), ?_⟩
    have k : B n ((-b) / (Int.gcd t b : Int)) := B_div h2.neg (gcd_pos (.inr hb))
    rw [← this.2] at k
    unfold B at k
    simpa using k
  · have := divInt_cut (t := t) z
    refine ⟨by rw [this.1]; exact B_div h1 (gcd_pos (.inr hb)), ?_⟩
    have k : B n (b / (Int.gcd t b : Int)) := B_div h2 (gcd_pos (.inr hb))
    rw [← this.2] at k
    unfold B at k
    simpa using k
theorem plus_cut (p q : Rat) : Rat.divInt (p.num * q.den + q.num * p.den) (p.den * q.den) = p + q := by
  rw [Rat.add_def', ← Rat.divInt_ofNat]
  push_cast
  rfl
theorem minus_cut (p q : Rat) : Rat.divInt (p.num * q.den - q.num * p.den) (p.den * q.den) = p - q := by
  rw [Rat.sub_def', ← Rat.divInt_ofNat]
  push_cast
  rfl
theorem times_cut (p q : Rat) : Rat.divInt (p.num * q.num) (p.den * q.den) = p * q := by
  rw [Rat.mul_def', ← Rat.divInt_ofNat]
  push_cast
  rfl
theorem den_ne (q : Rat) : (q.den : Int) ≠ 0 := by have := q.den_nz; omega
theorem den_pos (q : Rat) : 0 < (q.den : Int) := by have := q.den_pos; omega
theorem self_cut (q : Rat) : (q.num : Rat) / ((q.den : Int) : Rat) = q := by rw [← Rat.divInt_eq_div, Rat.num_divInt_den]
theorem over_cut (p q : Rat) (h : q.num ≠ 0) : Rat.divInt (p.num * q.den) (p.den * q.num) = p / q := by
  rw [Rat.divInt_eq_div]
  push_cast
  have e1 := self_cut p
  have e2 := self_cut q
  have n1 : ((p.den : Int) : Rat) ≠ 0 := fun z => den_ne p (Rat.intCast_eq_zero_iff.mp z)
  have n2 : ((q.den : Int) : Rat) ≠ 0 := fun z => den_ne q (Rat.intCast_eq_zero_iff.mp z)
  have n3 : (q.num : Rat) ≠ 0 := fun z => h (Rat.intCast_eq_zero_iff.mp z)
  have e3 : p / q = ((p.num : Rat) / ((p.den : Int) : Rat)) / ((q.num : Rat) / ((q.den : Int) : Rat)) := by rw [e1, e2]
  rw [e3]
  push_cast at *
  grind
theorem order_lt (p q : Rat) : p.num * q.den < q.num * p.den ↔ p < q := by rw [Rat.lt_iff]
theorem order_eq (p q : Rat) : p.num * q.den = q.num * p.den ↔ p = q := by
  constructor
  · intro h
    have a : ¬ p < q := fun z => by have := (order_lt p q).mpr z; omega
    have b : ¬ q < p := fun z => by have := (order_lt q p).mpr z; omega
    exact Rat.le_antisymm (Rat.not_lt.mp b) (Rat.not_lt.mp a)
  · rintro rfl
    rfl
theorem num_neg (q : Rat) : q.num < 0 ↔ q < 0 := by
  constructor
  · intro h
    by_cases z : q < 0
    · exact z
    · have : 0 ≤ q.num := Rat.num_nonneg.mpr (Rat.not_lt.mp z)
      omega
  · intro h
    by_cases z : q.num < 0
    · exact z
    · have : 0 ≤ q := Rat.num_nonneg.mp (by omega)
      exact absurd h (Rat.not_lt.mpr this)
theorem num_zero (q : Rat) : q.num = 0 ↔ q = 0 := Rat.num_eq_zero
theorem num_nonneg (q : Rat) : 0 ≤ q.num ↔ 0 ≤ q := Rat.num_nonneg
theorem num_pos (q : Rat) : 0 < q.num ↔ 0 < q := by
  constructor
  · intro h
    refine Rat.not_le.mp fun z => ?_
    have h1 := (num_nonneg (-q)).mpr (by grind)
    rw [Rat.neg_num] at h1
    omega
  · intro h
    by_cases z : 0 < q.num
    · exact z
    · have h1 : 0 ≤ (-q).num := by rw [Rat.neg_num]; omega
      have h2 := (num_nonneg (-q)).mp h1
      have h3 : ¬ (0 < q) := by grind
      exact absurd h h3
theorem Bq_plus {a b : Nat} {p q : Rat} (h : Bq a p) (k : Bq b q) : Bq (a + b + 1) (p + q) := by
  rw [← plus_cut]
  refine Bq_cut (((h.1.mul k.den).add (k.1.mul h.den)).mono (by omega)) ((h.den.mul k.den).mono (by omega)) ?_
  exact Int.mul_ne_zero (den_ne p) (den_ne q)
theorem Bq_minus {a b : Nat} {p q : Rat} (h : Bq a p) (k : Bq b q) : Bq (a + b + 1) (p - q) := by
  rw [← minus_cut]
  refine Bq_cut (((h.1.mul k.den).sub (k.1.mul h.den)).mono (by omega)) ((h.den.mul k.den).mono (by omega)) ?_
  exact Int.mul_ne_zero (den_ne p) (den_ne q)
theorem Bq_times {a b : Nat} {p q : Rat} (h : Bq a p) (k : Bq b q) : Bq (a + b) (p * q) := by
  rw [← times_cut]
  exact Bq_cut (h.1.mul k.1) (h.den.mul k.den) (Int.mul_ne_zero (den_ne p) (den_ne q))
theorem Bq_over {a b : Nat} {p q : Rat} (h : Bq a p) (k : Bq b q) (hq : q.num ≠ 0) : Bq (a + b) (p / q) := by
  rw [← over_cut p q hq]
  exact Bq_cut (h.1.mul k.den) (h.den.mul k.1) (Int.mul_ne_zero (den_ne p) hq)
theorem Bq_int {n : Nat} {i : Int} (h : B n i) (hn : 1 ≤ n) : Bq n (i : Rat) := by
  refine ⟨by rw [Rat.num_intCast]; exact h, ?_⟩
  rw [Rat.den_intCast]
  exact Nat.lt_of_lt_of_le (by decide : 1 < 2 ^ 1) (Nat.pow_le_pow_right (by decide) hn)
theorem Bq_neg {n : Nat} {q : Rat} (h : Bq n q) : Bq n (-q) := by
  refine ⟨by rw [Rat.neg_num]; exact h.1.neg, by rw [Rat.neg_den]; exact h.2⟩
/-- a way along a spot -/
theorem along_cut (w : P2) (z : Q2) : Rat.divInt (w.1 * z.1.num * z.2.den + w.2 * z.2.num * z.1.den) (z.1.den * z.2.den) = dq w z := by
  rw [Rat.divInt_eq_div]
  have e1 := self_cut z.1
  have e2 := self_cut z.2
  have n1 : ((z.1.den : Int) : Rat) ≠ 0 := fun y => den_ne z.1 (Rat.intCast_eq_zero_iff.mp y)
  have n2 : ((z.2.den : Int) : Rat) ≠ 0 := fun y => den_ne z.2 (Rat.intCast_eq_zero_iff.mp y)
  have e3 : dq w z = (w.1 : Rat) * ((z.1.num : Rat) / ((z.1.den : Int) : Rat)) + (w.2 : Rat) * ((z.2.num : Rat) / ((z.2.den : Int) : Rat)) := by
    rw [e1, e2]
    rfl
  rw [e3]
  push_cast at *
  grind
theorem along_ne (z : Q2) : (z.1.den : Int) * (z.2.den : Int) ≠ 0 := Int.mul_ne_zero (den_ne _) (den_ne _)
theorem Bq_along {k n : Nat} {w : P2} {z : Q2} (hw : BW k w) (hz : Bs n z) : Bq (k + 2 * n + 1) (dq w z) := by
  rw [← along_cut]
  refine Bq_cut ((((hw.1.mul hz.1.1).mul hz.2.den).add ((hw.2.mul hz.2.1).mul hz.1.den)).mono (by omega)) ((hz.1.den.mul hz.2.den).mono (by omega)) (along_ne z)
end K23
/-! the words of the promises: ways, sides, bodies, gaps, papers -/
namespace K23
/-- p and q in lowest terms -/
abbrev wayM (p q : Int) : P2 := cutM p q
/-- the way of the side from c to d -/
def sideW (c d : P2) : P2 := wayM (d.2 - c.2) (c.1 - d.1)
/-- the sides' ways: of each corner and the next, behind the last one comes e -/
def sideWs : List P2 → P2 → List P2
  | [], _ => []
  | [c], e => [sideW c e]
  | c :: d :: r, e => sideW c d :: sideWs (d :: r) e
def sidesM : List P2 → List P2
  | [] => []
  | c :: r => sideWs (c :: r) c
/-- next corners are unlike -/
def Steps : List P2 → P2 → Prop
  | [], _ => True
  | [c], e => c ≠ e
  | c :: d :: r, e => c ≠ d ∧ Steps (d :: r) e
def StepsM : List P2 → Prop
  | [] => False
  | c :: r => Steps (c :: r) c
/-- three corners not on a line -/
def NC (cs : List P2) : Prop := ∃ a ∈ cs, ∃ b ∈ cs, ∃ c ∈ cs, crs (sub b a) (sub c a) ≠ 0
structure Good (cs : List P2) : Prop where
  lo : 3 ≤ cs.length
  hi : cs.length ≤ 40
  small : ∀ c ∈ cs, BW 21 c
  steps : StepsM cs
  cone : Cone cs (sidesM cs)
  nc : NC cs
theorem Good.ne {cs : List P2} (h : Good cs) : cs ≠ [] := fun e => by have := h.lo; rw [e] at this; simp at this
structure Bo where
  cs : List P2
  place : Q2
  speed : Q2
def subQ (a b : Q2) : Q2 := (a.1 - b.1, a.2 - b.2)
def far (a b : Bo) : Q2 := subQ b.place a.place
def fast (a b : Bo) : Q2 := subQ b.speed a.speed
def shut (a b : Bo) (w : P2) : Int := reachM a.cs w + reachM b.cs (neg w)
def rateT (a b : Bo) (w : P2) : Rat := dq w (fast a b)
def gapT (a b : Bo) (w : P2) (t : Rat) : Rat := dq w (far a b) - (shut a b w : Rat) + rateT a b w * t
def PW (a b : Bo) : List P2 := sidesM a.cs ++ (sidesM b.cs).map neg
structure PairOk (a b : Bo) : Prop where
  ga : Good a.cs
  gb : Good b.cs
  pl : ∃ i j, Bs i a.place ∧ Bs j b.place ∧ i + j ≤ 460
  sp : ∃ i j, Bs i a.speed ∧ Bs j b.speed ∧ i + j ≤ 920
theorem PairOk.symm {a b : Bo} (h : PairOk a b) : PairOk b a := ⟨h.gb, h.ga, by
  obtain ⟨i, j, h1, h2, h3⟩ := h.pl
  exact ⟨j, i, h2, h1, by omega⟩, by
  obtain ⟨i, j, h1, h2, h3⟩ := h.sp
  exact ⟨j, i, h2, h1, by omega⟩⟩
/-- the pair's ways as the program meets them -/
inductive Pap where
  | clear (w : P2)
  | meets (t : Rat) (w : P2)
/-- all gaps shut, none that stands still or grows -/
def MetAt (a b : Bo) (t : Rat) : Prop := ∀ v ∈ PW a b, gapT a b v t < 0 ∨ gapT a b v t = 0 ∧ rateT a b v < 0
def Held (a b : Bo) (u : Rat) : Pap → Prop
  | .clear w => Int.gcd w.1 w.2 = 1 ∧ 0 ≤ gapT a b w 0 ∧ 0 ≤ gapT a b w u
  | .meets t w => 0 ≤ t ∧ t < u ∧ Int.gcd w.1 w.2 = 1 ∧ w ∈ PW a b ∧ gapT a b w t = 0 ∧ rateT a b w < 0 ∧ MetAt a b t
def turnedM : Pap → Pap
  | .clear w => .clear (neg w)
  | .meets t w => .meets t (neg w)
/-- a paper's sizes -/
def PapOk : Pap → Prop
  | .clear w => BW 1850 w
  | .meets t w => Bq 5600 t ∧ BW 22 w
def OverNow (a b : Bo) : Prop := ∀ w ∈ PW a b, gapT a b w 0 < 0
def leftM (a b c : P2) : Int := (b.1 - a.1) * (c.2 - a.2) - (b.2 - a.2) * (c.1 - a.1)
/-- the chain, last first -/
def popM (c : P2) : List P2 → List P2
  | b :: a :: r => if leftM a b c ≤ 0 then popM c (a :: r) else b :: a :: r
  | [b] => [b]
  | [] => []
def halfM (ps : List P2) : List P2 := (ps.foldl (fun ch c => c :: popM c ch) []).tail.reverse
end K23
/-! lowest terms, once more -/
namespace K23
theorem cut_scale {p q : Int} (h : p ≠ 0 ∨ q ≠ 0) : ∃ g : Int, 0 < g ∧ p = g * (cutM p q).1 ∧ q = g * (cutM p q).2 := by
  refine ⟨_, gcd_pos h, ?_, ?_⟩
  · exact (Int.mul_ediv_cancel' (Int.gcd_dvd_left p q)).symm
  · exact (Int.mul_ediv_cancel' (Int.gcd_dvd_right p q)).symm
theorem cut_ne {p q : Int} (h : p ≠ 0 ∨ q ≠ 0) : cutM p q ≠ (0, 0) := by
  obtain ⟨g, hg, h1, h2⟩ := cut_scale h
  intro e
  rw [e] at h1 h2
  simp at h1 h2
  omega
theorem cut_gcd {p q : Int} (h : p ≠ 0 ∨ q ≠ 0) : Int.gcd (cutM p q).1 (cutM p q).2 = 1 := by
  have hg := (Int.gcd_pos_iff (a := p) (b := q)).mpr h
  exact Int.gcd_ediv_gcd_ediv_gcd hg
theorem gcd_ne {w : P2} (h : Int.gcd w.1 w.2 = 1) : w ≠ (0, 0) := by
  intro e
  rw [e] at h
  simp at h
theorem gcd_neg {w : P2} (h : Int.gcd w.1 w.2 = 1) : Int.gcd (neg w).1 (neg w).2 = 1 := by
  unfold neg
  rw [Int.gcd_neg, Int.neg_gcd]
  exact h
theorem neg_neg (w : P2) : neg (neg w) = w := by unfold neg; simp
/-- one way only in lowest terms -/
theorem dq_scale {w v : P2} {g : Int} (h1 : w.1 = g * v.1) (h2 : w.2 = g * v.2) (z : Q2) : dq w z = (g : Rat) * dq v z := by
  unfold dq
  rw [h1, h2]
  push_cast
  grind
end K23
/-! a separating way among the sides -/
namespace K23
def Sup (cs : List P2) (n p : P2) : Prop := ∀ c ∈ cs, dot n c ≤ dot n p
theorem sup_comb {cs : List P2} {p n1 n2 d : P2} {k a b : Int} (hk : 0 < k) (ha : 0 ≤ a) (hb : 0 ≤ b) (e1 : d.1 * k = n1.1 * a + n2.1 * b) (e2 : d.2 * k = n1.2 * a + n2.2 * b) (h1 : Sup cs n1 p) (h2 : Sup cs n2 p) : Sup cs d p := by
  intro c hc
  have q1 := Int.mul_le_mul_of_nonneg_right (h1 c hc) ha
  have q2 := Int.mul_le_mul_of_nonneg_right (h2 c hc) hb
  have f : ∀ x : P2, dot d x * k = dot n1 x * a + dot n2 x * b := fun x => by
    have : dot d x * k = (d.1 * k) * x.1 + (d.2 * k) * x.2 := by unfold dot; grind
    rw [this, e1, e2]
    unfold dot
    grind
  have q3 : dot d c * k ≤ dot d p * k := by rw [f, f]; omega
  exact Int.le_of_mul_le_mul_right q3 hk
theorem dot_neg (w c : P2) : dot (neg w) c = - dot w c := by unfold dot neg; simp only; grind
theorem crs_neg (u v : P2) : crs (neg u) (neg v) = crs u v := by unfold crs neg; simp only; grind
theorem crs_swap (u v : P2) : crs u v = - crs v u := by unfold crs; grind
/-- three ways in the plane -/
theorem plk1 (u v w : P2) : u.1 * crs v w = v.1 * crs u w + w.1 * crs v u := by unfold crs; grind
theorem plk2 (u v w : P2) : u.2 * crs v w = v.2 * crs u w + w.2 * crs v u := by unfold crs; grind
theorem sup_gap {one other : List P2} {w p q : P2} {z : Q2} (hp : p ∈ one) (hq : q ∈ other) (h1 : Sup one w p) (h2 : Sup other (neg w) q) : gapZ one other w z = dq w (z.1 + (q.1 : Rat) - (p.1 : Rat), z.2 + (q.2 : Rat) - (p.2 : Rat)) := by
  refine gapZ_eq hp hq h1 fun c hc => ?_
  have := h2 c hc
  rw [dot_neg, dot_neg] at this
  omega
theorem dq_comb {d a b : P2} {k x y : Int} (hk : 0 < k) (hx : 0 ≤ x) (hy : 0 ≤ y) (hxy : 0 < x ∨ 0 < y) (e1 : d.1 * k = a.1 * x + b.1 * y) (e2 : d.2 * k = a.2 * x + b.2 * y) {v : Q2} (h1 : dq a v < 0) (h2 : dq b v < 0) : dq d v < 0 := by
  have c1 : (d.1 : Rat) * (k : Rat) = (a.1 : Rat) * (x : Rat) + (b.1 : Rat) * (y : Rat) := by exact_mod_cast e1
  have c2 : (d.2 : Rat) * (k : Rat) = (a.2 : Rat) * (x : Rat) + (b.2 : Rat) * (y : Rat) := by exact_mod_cast e2
  have f : dq d v * (k : Rat) = dq a v * (x : Rat) + dq b v * (y : Rat) := by unfold dq; grind
  have kk : (0 : Rat) < (k : Rat) := by exact_mod_cast hk
  have xx : (0 : Rat) ≤ (x : Rat) := by exact_mod_cast hx
  have yy : (0 : Rat) ≤ (y : Rat) := by exact_mod_cast hy
  have n1 := Rat.mul_nonneg (a := -dq a v) (b := (x : Rat)) (by grind) xx
  have n2 := Rat.mul_nonneg (a := -dq b v) (b := (y : Rat)) (by grind) yy
  by_cases z : dq d v < 0
  · exact z
  · have n3 := Rat.mul_nonneg (a := dq d v) (b := (k : Rat)) (by grind) (by grind)
    exfalso
    rcases hxy with q | q
    · have qq : (0 : Rat) < (x : Rat) := by exact_mod_cast q
      have := Rat.mul_pos (a := -dq a v) (b := (x : Rat)) (by grind) qq
      grind
    · have qq : (0 : Rat) < (y : Rat) := by exact_mod_cast q
      have := Rat.mul_pos (a := -dq b v) (b := (y : Rat)) (by grind) qq
      grind
/-- a way that goes as another does -/
theorem gap_scale {one other : List P2} (h1 : one ≠ []) (h2 : other ≠ []) {d n : P2} {k x : Int} (hk : 0 < k) (hx : 0 < x) (e1 : d.1 * k = n.1 * x) (e2 : d.2 * k = n.2 * x) {z : Q2} (h : gapZ one other n z < 0) : gapZ one other d z < 0 := by
  obtain ⟨p, hp, ep⟩ := reach_mem n h1
  obtain ⟨q, hq, eq⟩ := reach_mem (neg n) h2
  have s1 : Sup one n p := fun c hc => by rw [← ep]; exact reach_ge hc
  have s2 : Sup other (neg n) q := fun c hc => by rw [← eq]; exact reach_ge hc
  have t1 : Sup one d p := sup_comb (n2 := n) (b := 0) hk (Int.le_of_lt hx) (Int.le_refl _) (by omega) (by omega) s1 s1
  have t2 : Sup other (neg d) q := sup_comb (n1 := neg n) (n2 := neg n) (b := 0) hk (Int.le_of_lt hx) (Int.le_refl _) (by unfold neg; simp only; grind) (by unfold neg; simp only; grind) s2 s2
  rw [sup_gap hp hq s1 s2] at h
  rw [sup_gap hp hq t1 t2]
  exact dq_comb (b := n) (y := 0) hk (Int.le_of_lt hx) (Int.le_refl _) (.inl hx) (by omega) (by omega) h h
theorem SAT {cs1 cs2 W1 W2 : List P2} (C1 : Cone cs1 W1) (C2 : Cone cs2 W2) {z : Q2} (h : ∀ w ∈ W1 ++ W2.map neg, gapZ cs1 cs2 w z < 0) {d : P2} (hd : d ≠ (0, 0)) : gapZ cs1 cs2 d z < 0 := by
  obtain ⟨n1, hn1, n2, hn2, p, hp, sp1, sp2, a1, a2, a3⟩ := C1 d hd
  have hd' : neg d ≠ (0, 0) := fun e => hd (by rw [← neg_neg d, e]; rfl)
  obtain ⟨l1, hl1, l2, hl2, q, hq, sq1, sq2, b1, b2, b3⟩ := C2 (neg d) hd'
  have ne1 : cs1 ≠ [] := fun e => by rw [e] at hp; cases hp
  have ne2 : cs2 ≠ [] := fun e => by rw [e] at hq; cases hq
  obtain ⟨m1, em1⟩ : ∃ m1, m1 = neg l1 := ⟨_, rfl⟩
  obtain ⟨m2, em2⟩ : ∃ m2, m2 = neg l2 := ⟨_, rfl⟩
  have fl1 : l1 = neg m1 := by rw [em1, neg_neg]
  have fl2 : l2 = neg m2 := by rw [em2, neg_neg]
  rw [fl1, crs_neg] at b1
  rw [fl2, crs_neg] at b2
  rw [fl1, fl2, crs_neg] at b3
  have sq1 : Sup cs2 (neg m1) q := by rw [← fl1]; exact sq1
  have sq2 : Sup cs2 (neg m2) q := by rw [← fl2]; exact sq2
  have sp1 : Sup cs1 n1 p := sp1
  have sp2 : Sup cs1 n2 p := sp2
  have gn1 := h n1 (List.mem_append_left _ hn1)
  have gn2 := h n2 (List.mem_append_left _ hn2)
  have gm1 := h m1 (List.mem_append_right _ (List.mem_map.mpr ⟨l1, hl1, em1.symm⟩))
  have gm2 := h m2 (List.mem_append_right _ (List.mem_map.mpr ⟨l2, hl2, em2.symm⟩))
  have zero : ∀ {x : Int}, 0 ≤ x → ¬ 0 < x → x = 0 := fun h k => by omega
  have dz : ∀ {k : Int}, 0 < k → d.1 * k = 0 → d.2 * k = 0 → False := fun hk e1 e2 => hd (Prod.ext ((Int.mul_eq_zero.mp e1).resolve_right (by omega)) ((Int.mul_eq_zero.mp e2).resolve_right (by omega)))
  -- d by n1, n2 and by m1, m2
  have dn1 : d.1 * crs n1 n2 = n1.1 * crs d n2 + n2.1 * crs n1 d := plk1 d n1 n2
  have dn2 : d.2 * crs n1 n2 = n1.2 * crs d n2 + n2.2 * crs n1 d := plk2 d n1 n2
  have dm1 : d.1 * crs m1 m2 = m1.1 * crs d m2 + m2.1 * crs m1 d := plk1 d m1 m2
  have dm2 : d.2 * crs m1 m2 = m1.2 * crs d m2 + m2.2 * crs m1 d := plk2 d m1 m2
  by_cases p1 : 0 < crs n1 d
  rotate_left
  · have e := zero a1 p1
    rw [e] at dn1 dn2
    by_cases p2 : 0 < crs d n2
    · exact gap_scale ne1 ne2 a3 p2 (by omega) (by omega) gn1
    · have e2 := zero a2 p2
      rw [e2] at dn1 dn2
      exact (dz a3 (by omega) (by omega)).elim
  by_cases p2 : 0 < crs d n2
  rotate_left
  · have e := zero a2 p2
    rw [e] at dn1 dn2
    exact gap_scale ne1 ne2 a3 p1 (by omega) (by omega) gn2
  by_cases p3 : 0 < crs m1 d
  rotate_left
  · have e := zero b1 p3
    rw [e] at dm1 dm2
    by_cases p4 : 0 < crs d m2
    · exact gap_scale ne1 ne2 b3 p4 (by omega) (by omega) gm1
    · have e2 := zero b2 p4
      rw [e2] at dm1 dm2
      exact (dz b3 (by omega) (by omega)).elim
  by_cases p4 : 0 < crs d m2
  rotate_left
  · have e := zero b2 p4
    rw [e] at dm1 dm2
    exact gap_scale ne1 ne2 b3 p3 (by omega) (by omega) gm2
  have sd : Sup cs1 d p := sup_comb a3 (Int.le_of_lt p2) (Int.le_of_lt p1) dn1 dn2 sp1 sp2
  have negc : ∀ {x y u : P2} {k s t : Int}, x.1 * k = y.1 * s + u.1 * t → x.2 * k = y.2 * s + u.2 * t → (neg x).1 * k = (neg y).1 * s + (neg u).1 * t ∧ (neg x).2 * k = (neg y).2 * s + (neg u).2 * t := fun e1 e2 => by
    unfold neg
    simp only
    constructor <;> grind
  have sdq : Sup cs2 (neg d) q := sup_comb b3 (Int.le_of_lt p4) (Int.le_of_lt p3) (negc dm1 dm2).1 (negc dm1 dm2).2 sq1 sq2
  rw [sup_gap hp hq sd sdq]
  generalize hv : ((z.1 + (q.1 : Rat) - (p.1 : Rat), z.2 + (q.2 : Rat) - (p.2 : Rat)) : Q2) = v
  -- the way before d
  have before : ∃ a : P2, 0 < crs a d ∧ dq a v < 0 ∧ ∀ b : P2, 0 < crs d b → (b = n2 ∨ b = m2) → 0 < crs a b := by
    by_cases c : 0 ≤ crs n1 m1
    · refine ⟨m1, p3, ?_, fun b hb hb' => ?_⟩
      · have s : Sup cs1 m1 p := sup_comb p1 (Int.le_of_lt p3) c (plk1 m1 n1 d) (plk2 m1 n1 d) sp1 sd
        rw [sup_gap hp hq s sq1, hv] at gm1
        exact gm1
      · rcases hb' with rfl | rfl
        · have e : crs m1 b * crs n1 d = crs n1 b * crs m1 d + crs d b * crs n1 m1 := by unfold crs; grind
          have f1 := Int.mul_pos a3 p3
          have f2 := Int.mul_nonneg (Int.le_of_lt hb) c
          exact Int.pos_of_mul_pos_left (by rw [e]; omega) p1
        · exact b3
    · have c' : 0 < crs m1 n1 := by rw [crs_swap]; omega
      refine ⟨n1, p1, ?_, fun b hb hb' => ?_⟩
      · have s : Sup cs2 (neg n1) q := sup_comb p3 (Int.le_of_lt p1) (Int.le_of_lt c') (negc (plk1 n1 m1 d) (plk2 n1 m1 d)).1 (negc (plk1 n1 m1 d) (plk2 n1 m1 d)).2 sq1 sdq
        rw [sup_gap hp hq sp1 s, hv] at gn1
        exact gn1
      · rcases hb' with rfl | rfl
        · exact a3
        · have e : crs n1 b * crs m1 d = crs m1 b * crs n1 d + crs d b * crs m1 n1 := by unfold crs; grind
          have f1 := Int.mul_pos b3 p1
          have f2 := Int.mul_pos hb c'
          exact Int.pos_of_mul_pos_left (by rw [e]; omega) p3
  have behind : ∃ b : P2, 0 < crs d b ∧ dq b v < 0 ∧ (b = n2 ∨ b = m2) := by
    by_cases c : 0 ≤ crs m2 n2
    · refine ⟨m2, p4, ?_, .inr rfl⟩
      have s : Sup cs1 m2 p := by
        refine sup_comb (n1 := n2) (n2 := d) (a := crs d m2) (b := crs m2 n2) p2 (Int.le_of_lt p4) c ?_ ?_ sp2 sd
        · unfold crs; grind
        · unfold crs; grind
      rw [sup_gap hp hq s sq2, hv] at gm2
      exact gm2
    · have c' : 0 < crs n2 m2 := by rw [crs_swap]; omega
      refine ⟨n2, p2, ?_, .inl rfl⟩
      have s : Sup cs2 (neg n2) q := by
        have e := negc (x := n2) (y := m2) (u := d) (k := crs d m2) (s := crs d n2) (t := crs n2 m2) (by unfold crs; grind) (by unfold crs; grind)
        exact sup_comb p4 (Int.le_of_lt p2) (Int.le_of_lt c') e.1 e.2 sq2 sdq
      rw [sup_gap hp hq sp2 s, hv] at gn2
      exact gn2
  obtain ⟨a, ha, hav, hab⟩ := before
  obtain ⟨b, hb, hbv, hb'⟩ := behind
  exact dq_comb (hab b hb hb') (Int.le_of_lt hb) (Int.le_of_lt ha) (.inl hb) (plk1 d a b) (plk2 d a b) hav hbv
end K23
/-! gaps in time; what is held -/
namespace K23
def goneQ (a b : Bo) (t : Rat) : Q2 := ((far a b).1 + (fast a b).1 * t, (far a b).2 + (fast a b).2 * t)
theorem gapT_Z (a b : Bo) (w : P2) (t : Rat) : gapT a b w t = gapZ a.cs b.cs w (goneQ a b t) := by
  unfold gapT gapZ rateT dq goneQ shut
  simp only
  grind
theorem gap_lin (a b : Bo) (w : P2) (t s : Rat) : gapT a b w t = gapT a b w s + rateT a b w * (t - s) := by
  unfold gapT
  grind
theorem SATt {a b : Bo} (h : PairOk a b) {t : Rat} (ho : ∀ w ∈ PW a b, gapT a b w t < 0) {d : P2} (hd : d ≠ (0, 0)) : gapT a b d t < 0 := by
  rw [gapT_Z]
  refine SAT h.ga.cone h.gb.cone (fun w hw => ?_) hd
  rw [← gapT_Z]
  exact ho w hw
theorem neg_mul_le {r x : Rat} (hr : r < 0) (h : r * x ≤ 0) : 0 ≤ x := by
  by_cases z : 0 ≤ x
  · exact z
  · have := Rat.mul_pos (a := -r) (b := -x) (by grind) (by grind)
    grind
theorem met_le {a b : Bo} {t s : Rat} {w : P2} (h0 : gapT a b w t = 0) (hr : rateT a b w < 0) (hs : gapT a b w s ≤ 0) : t ≤ s := by
  rw [gap_lin a b w s t, h0] at hs
  have := neg_mul_le hr (by grind : rateT a b w * (s - t) ≤ 0)
  grind
theorem met_nonpos {a b : Bo} {t : Rat} (h : MetAt a b t) {w : P2} (hw : w ∈ PW a b) : gapT a b w t ≤ 0 := by
  rcases h w hw with q | q <;> grind
theorem M2 {a b : Bo} {u u' t t' : Rat} {w v : P2} (h1 : Held a b u (.meets t w)) (h2 : Held a b u' (.meets t' v)) : t = t' := by
  have k1 := met_le h1.2.2.2.2.1 h1.2.2.2.2.2.1 (met_nonpos h2.2.2.2.2.2.2 h1.2.2.2.1)
  have k2 := met_le h2.2.2.2.2.1 h2.2.2.2.2.2.1 (met_nonpos h1.2.2.2.2.2.2 h2.2.2.2.1)
  exact Rat.le_antisymm k1 k2
theorem M3 {a b : Bo} (h : PairOk a b) {u : Rat} {p : Pap} (ho : OverNow a b) (h1 : Held a b u p) : False := by
  cases p with
  | clear w =>
    have := SATt h ho (gcd_ne h1.1)
    have := h1.2.1
    grind
  | meets t w =>
    have k := ho w h1.2.2.2.1
    have := met_le h1.2.2.2.2.1 h1.2.2.2.2.2.1 (Rat.le_of_lt k)
    have t0 := h1.1
    have e : t = 0 := Rat.le_antisymm this t0
    have z := h1.2.2.2.2.1
    rw [e] at z
    grind
/-- just behind a time when all shrink into it, all are shut -/
theorem after {a b : Bo} {t u : Rat} (htu : t < u) : ∀ L : List P2, (∀ v ∈ L, gapT a b v t < 0 ∨ gapT a b v t = 0 ∧ rateT a b v < 0) → ∃ s, t < s ∧ s ≤ u ∧ ∀ v ∈ L, ∀ r, t < r → r ≤ s → gapT a b v r < 0
  | [], _ => ⟨u, htu, Rat.le_refl, fun v hv => by cases hv⟩
  | v :: L, h => by
    obtain ⟨s, s1, s2, s3⟩ := after htu L fun x hx => h x (List.mem_cons_of_mem _ hx)
    have hv := h v List.mem_cons_self
    by_cases c : rateT a b v ≤ 0
    · refine ⟨s, s1, s2, fun x hx r r1 r2 => ?_⟩
      rcases List.mem_cons.mp hx with rfl | hx
      · rw [gap_lin a b x r t]
        rcases hv with q | ⟨q, q2⟩
        · have := Rat.mul_nonneg (a := -rateT a b x) (b := r - t) (by grind) (by grind)
          grind
        · have := Rat.mul_pos (a := -rateT a b x) (b := r - t) (by grind) (by grind)
          grind
      · exact s3 x hx r r1 r2
    · have c' : 0 < rateT a b v := Rat.not_le.mp c
      have g0 : gapT a b v t < 0 := by
        rcases hv with q | ⟨q, q2⟩
        · exact q
        · grind
      have bound : ∀ s', t < s' → (s' - t) * rateT a b v < -gapT a b v t → ∀ r, t < r → r ≤ s' → gapT a b v r < 0 := fun s' _ hs' r r1 r2 => by
        rw [gap_lin a b v r t]
        have := Rat.mul_nonneg (a := s' - r) (b := rateT a b v) (by grind) (by grind)
        grind
      obtain ⟨e, he⟩ : ∃ e : Rat, e = (-gapT a b v t) / (2 * rateT a b v) := ⟨_, rfl⟩
      have e1 : e * rateT a b v = -gapT a b v t / 2 := by rw [he]; grind
      have e0 : 0 < e := by
        by_cases z : 0 < e
        · exact z
        · have := Rat.mul_nonneg (a := -e) (b := rateT a b v) (by grind) (by grind)
          grind
      by_cases m : s ≤ t + e
      · refine ⟨s, s1, s2, fun x hx r r1 r2 => ?_⟩
        rcases List.mem_cons.mp hx with rfl | hx
        · refine bound (t + e) (by grind) (by grind) r r1 (by grind)
        · exact s3 x hx r r1 r2
      · refine ⟨t + e, by grind, by grind, fun x hx r r1 r2 => ?_⟩
        rcases List.mem_cons.mp hx with rfl | hx
        · refine bound (t + e) (by grind) (by grind) r r1 r2
        · exact s3 x hx r r1 (by grind)
theorem M1 {a b : Bo} (h : PairOk a b) {u t : Rat} {w v : P2} (h1 : Held a b u (.clear w)) (h2 : Held a b u (.meets t v)) : False := by
  obtain ⟨g1, g2, g3⟩ := h1
  obtain ⟨t0, tu, _, _, _, _, hm⟩ := h2
  obtain ⟨s, s1, s2, s3⟩ := after tu (PW a b) hm
  have q := SATt h (t := s) (fun x hx => s3 x hx s s1 Rat.le_refl) (gcd_ne g1)
  -- the gap of w is not shut between now and until
  by_cases c : 0 ≤ rateT a b w
  · rw [gap_lin a b w s 0] at q
    have := Rat.mul_nonneg (a := rateT a b w) (b := s - 0) c (by grind)
    grind
  · rw [gap_lin a b w s u] at q
    have := Rat.mul_nonneg (a := -rateT a b w) (b := u - s) (by grind) (by grind)
    grind
theorem shut_swap (a b : Bo) (w : P2) : shut b a (neg w) = shut a b w := by
  unfold shut
  rw [neg_neg]
  omega
theorem rate_swap (a b : Bo) (w : P2) : rateT b a (neg w) = rateT a b w := by
  unfold rateT dq fast subQ neg
  simp only
  push_cast
  grind
theorem gap_swap (a b : Bo) (w : P2) (t : Rat) : gapT b a (neg w) t = gapT a b w t := by
  unfold gapT
  rw [shut_swap, rate_swap]
  have : dq (neg w) (far b a) = dq w (far a b) := by
    unfold dq far subQ neg
    simp only
    push_cast
    grind
  rw [this]
theorem PW_swap {a b : Bo} {w : P2} (h : w ∈ PW a b) : neg w ∈ PW b a := by
  rcases List.mem_append.mp h with q | q
  · exact List.mem_append_right _ (List.mem_map.mpr ⟨w, q, rfl⟩)
  · obtain ⟨v, hv, rfl⟩ := List.mem_map.mp q
    rw [neg_neg]
    exact List.mem_append_left _ hv
theorem met_swap {a b : Bo} {t : Rat} (h : MetAt a b t) : MetAt b a t := fun v hv => by
  have := h (neg v) (PW_swap hv)
  rw [← gap_swap a b (neg v), ← rate_swap a b (neg v), neg_neg] at this
  exact this
theorem M5 {a b : Bo} {u : Rat} {p : Pap} (h1 : Held a b u p) : Held b a u (turnedM p) := by
  cases p with
  | clear w =>
    obtain ⟨g1, g2, g3⟩ := h1
    refine ⟨gcd_neg g1, ?_, ?_⟩
    · rw [gap_swap]; exact g2
    · rw [gap_swap]; exact g3
  | meets t w =>
    obtain ⟨t0, tu, hg, hw, hz, hr, hm⟩ := h1
    exact ⟨t0, tu, gcd_neg hg, PW_swap hw, by rw [gap_swap]; exact hz, by rw [rate_swap]; exact hr, met_swap hm⟩

/-! ### what first tells -/
/-- the speed's way in whole numbers -/
def fastF (a b : Bo) : P2 := ((fast a b).1.num * (fast a b).2.den, (fast a b).2.num * (fast a b).1.den)
def fastK (a b : Bo) : Int := (fast a b).1.den * (fast a b).2.den
theorem fastK_pos (a b : Bo) : 0 < fastK a b := Int.mul_pos (den_pos _) (den_pos _)
theorem fast_dot (a b : Bo) (w : P2) : ((dot w (fastF a b) : Int) : Rat) = rateT a b w * (fastK a b : Rat) := by
  have e1 := self_cut (fast a b).1
  have e2 := self_cut (fast a b).2
  have n1 : (((fast a b).1.den : Int) : Rat) ≠ 0 := fun y => den_ne _ (Rat.intCast_eq_zero_iff.mp y)
  have n2 : (((fast a b).2.den : Int) : Rat) ≠ 0 := fun y => den_ne _ (Rat.intCast_eq_zero_iff.mp y)
  unfold rateT dq dot fastF fastK
  simp only
  generalize (fast a b).1.num = p at *
  generalize (fast a b).2.num = q at *
  generalize ((fast a b).1.den : Int) = d1 at *
  generalize ((fast a b).2.den : Int) = d2 at *
  rw [← e1, ← e2]
  push_cast
  grind
theorem fastF_ne {a b : Bo} (h : fast a b ≠ (0, 0)) : fastF a b ≠ (0, 0) := by
  intro e
  apply h
  have e1 := congrArg Prod.fst e
  have e2 := congrArg Prod.snd e
  refine Prod.ext ((num_zero _).mp ?_) ((num_zero _).mp ?_)
  · exact (Int.mul_eq_zero.mp e1).resolve_right (den_ne _)
  · exact (Int.mul_eq_zero.mp e2).resolve_right (den_ne _)
theorem rate_pos_iff (a b : Bo) (w : P2) : 0 < dot w (fastF a b) ↔ 0 < rateT a b w := by
  have k := fastK_pos a b
  have kk : (0 : Rat) < (fastK a b : Rat) := by exact_mod_cast k
  have e := fast_dot a b w
  constructor
  · intro h
    have h' : (0 : Rat) < ((dot w (fastF a b) : Int) : Rat) := by exact_mod_cast h
    rw [e] at h'
    by_cases z : 0 < rateT a b w
    · exact z
    · have := Rat.mul_nonneg (a := -rateT a b w) (b := (fastK a b : Rat)) (by grind) (by grind)
      grind
  · intro h
    have := Rat.mul_pos h kk
    rw [← e] at this
    exact_mod_cast this
theorem rate_neg_iff (a b : Bo) (w : P2) : dot w (fastF a b) < 0 ↔ rateT a b w < 0 := by
  have h := rate_pos_iff a b (neg w)
  rw [dot_neg] at h
  have e : rateT a b (neg w) = - rateT a b w := by
    unfold rateT dq neg
    simp only
    push_cast
    grind
  rw [e] at h
  constructor
  · intro k
    have := h.mp (by omega)
    grind
  · intro k
    have := h.mpr (by grind)
    omega
theorem sq_pos {f : P2} (h : f ≠ (0, 0)) : 0 < f.1 * f.1 + f.2 * f.2 := by
  have n : ∀ x : Int, 0 ≤ x * x := fun x => by
    rcases Int.le_total 0 x with q | q
    · exact Int.mul_nonneg q q
    · exact Int.mul_nonneg_of_nonpos_of_nonpos q q
  have n1 := n f.1
  have n2 := n f.2
  by_cases z : f.1 * f.1 + f.2 * f.2 = 0
  · exfalso
    have z1 : f.1 * f.1 = 0 := by omega
    have z2 : f.2 * f.2 = 0 := by omega
    exact h (Prod.ext (by rcases Int.mul_eq_zero.mp z1 with q | q <;> exact q) (by rcases Int.mul_eq_zero.mp z2 with q | q <;> exact q))
  · omega
theorem growM {a b : Bo} (h : PairOk a b) (hs : ∃ w ∈ PW a b, rateT a b w < 0) : ∃ w ∈ PW a b, 0 < rateT a b w := by
  obtain ⟨w, hw, hr⟩ := hs
  have hf : fast a b ≠ (0, 0) := fun e => by
    unfold rateT dq at hr
    rw [e] at hr
    grind
  have hF := fastF_ne hf
  obtain ⟨n1, hn1, n2, hn2, p, hp, _, _, a1, a2, a3⟩ := h.ga.cone (fastF a b) hF
  have sq := sq_pos hF
  have c1 := plk1 (fastF a b) n1 n2
  have c2 := plk2 (fastF a b) n1 n2
  have e : ((fastF a b).1 * (fastF a b).1 + (fastF a b).2 * (fastF a b).2) * crs n1 n2 = dot n1 (fastF a b) * crs (fastF a b) n2 + dot n2 (fastF a b) * crs n1 (fastF a b) := by
    have : ((fastF a b).1 * (fastF a b).1 + (fastF a b).2 * (fastF a b).2) * crs n1 n2 = (fastF a b).1 * ((fastF a b).1 * crs n1 n2) + (fastF a b).2 * ((fastF a b).2 * crs n1 n2) := by grind
    rw [this, c1, c2]
    unfold dot
    grind
  have pos := Int.mul_pos sq a3
  by_cases q1 : 0 < dot n1 (fastF a b)
  · exact ⟨n1, List.mem_append_left _ hn1, (rate_pos_iff a b n1).mp q1⟩
  · by_cases q2 : 0 < dot n2 (fastF a b)
    · exact ⟨n2, List.mem_append_left _ hn2, (rate_pos_iff a b n2).mp q2⟩
    · exfalso
      have m1 := Int.mul_nonneg (a := - dot n1 (fastF a b)) (b := crs (fastF a b) n2) (by omega) a2
      have m2 := Int.mul_nonneg (a := - dot n2 (fastF a b)) (b := crs n1 (fastF a b)) (by omega) a1
      rw [Int.neg_mul] at m1 m2
      omega
end K23
/-! when first finds neither a meeting nor a clear way -/
namespace K23
def Ups (a b : Bo) (us : List P2) : Prop := fast a b = (0, 0) ∧ us = [] ∨ fast a b ≠ (0, 0) ∧ ∃ u, us = [u, neg u] ∧ u ≠ (0, 0) ∧ Int.gcd u.1 u.2 = 1 ∧ dq u (fast a b) = 0 ∧ BW 1850 u
/-- a greatest one of those that have P -/
theorem best {P : P2 → Prop} (f : P2 → Rat) : ∀ L : List P2, (∃ w ∈ L, P w) → ∃ w ∈ L, P w ∧ ∀ v ∈ L, P v → f v ≤ f w
  | [], h => by obtain ⟨w, hw, _⟩ := h; cases hw
  | x :: L, h => by
    by_cases q : ∃ w ∈ L, P w
    · obtain ⟨w, hw, pw, hm⟩ := best f L q
      by_cases c : P x ∧ f w ≤ f x
      · refine ⟨x, List.mem_cons_self, c.1, fun v hv pv => ?_⟩
        rcases List.mem_cons.mp hv with rfl | hv
        · exact Rat.le_refl
        · exact Rat.le_trans (hm v hv pv) c.2
      · refine ⟨w, List.mem_cons_of_mem _ hw, pw, fun v hv pv => ?_⟩
        rcases List.mem_cons.mp hv with rfl | hv
        · rcases (Rat.le_total : f v ≤ f w ∨ f w ≤ f v) with k | k
          · exact k
          · exact absurd ⟨pv, k⟩ c
        · exact hm v hv pv
    · obtain ⟨w, hw, pw⟩ := h
      rcases List.mem_cons.mp hw with rfl | hw
      · refine ⟨w, List.mem_cons_self, pw, fun v hv pv => ?_⟩
        rcases List.mem_cons.mp hv with rfl | hv
        · exact Rat.le_refl
        · exact absurd ⟨v, hv, pv⟩ q
      · exact absurd ⟨w, hw, pw⟩ q
/-- the gap of a sum of ways is no less than the sum -/
theorem gap_super {one other : List P2} (h1 : one ≠ []) (h2 : other ≠ []) {x w v : P2} {α β : Int} (hα : 0 ≤ α) (hβ : 0 ≤ β) (e1 : x.1 = α * w.1 + β * v.1) (e2 : x.2 = α * w.2 + β * v.2) (z : Q2) :
    (α : Rat) * gapZ one other w z + (β : Rat) * gapZ one other v z ≤ gapZ one other x z := by
  obtain ⟨p, hp, ep⟩ := reach_mem x h1
  obtain ⟨q, hq, eq⟩ := reach_mem (neg x) h2
  have s1 : Sup one x p := fun c hc => by rw [← ep]; exact reach_ge hc
  have s2 : Sup other (neg x) q := fun c hc => by rw [← eq]; exact reach_ge hc
  rw [sup_gap hp hq s1 s2]
  have g1 := gapZ_le (w := w) (z := z) hp hq
  have g2 := gapZ_le (w := v) (z := z) hp hq
  generalize ((z.1 + (q.1 : Rat) - (p.1 : Rat), z.2 + (q.2 : Rat) - (p.2 : Rat)) : Q2) = y at g1 g2 ⊢
  have a0 : (0 : Rat) ≤ (α : Rat) := by exact_mod_cast hα
  have b0 : (0 : Rat) ≤ (β : Rat) := by exact_mod_cast hβ
  have c1 : (x.1 : Rat) = (α : Rat) * (w.1 : Rat) + (β : Rat) * (v.1 : Rat) := by exact_mod_cast e1
  have c2 : (x.2 : Rat) = (α : Rat) * (w.2 : Rat) + (β : Rat) * (v.2 : Rat) := by exact_mod_cast e2
  have f : dq x y = (α : Rat) * dq w y + (β : Rat) * dq v y := by
    unfold dq
    rw [c1, c2]
    grind
  have m1 := Rat.mul_nonneg a0 (show 0 ≤ dq w y - gapZ one other w z by grind)
  have m2 := Rat.mul_nonneg b0 (show 0 ≤ dq v y - gapZ one other v z by grind)
  rw [f]
  grind
/-- two ways against each other can't both be open -/
theorem gap_width {one other : List P2} (hn : NC one) (h2 : other ≠ []) {w v : P2} {α β : Int} (hα : 0 < α) (hβ : 0 < β) (hw : w ≠ (0, 0)) (e1 : α * w.1 + β * v.1 = 0) (e2 : α * w.2 + β * v.2 = 0) (z : Q2) :
    (α : Rat) * gapZ one other w z + (β : Rat) * gapZ one other v z < 0 := by
  -- two corners of unlike reach
  have two : ∃ p ∈ one, ∃ p' ∈ one, dot w p' < dot w p := by
    obtain ⟨a, ha, b, hb, c, hc, hne⟩ := hn
    by_cases k1 : dot w a = dot w b
    · by_cases k2 : dot w a = dot w c
      · exfalso
        have f1 : w.1 * (sub b a).1 + w.2 * (sub b a).2 = 0 := by unfold dot at k1; unfold sub; simp only; grind
        have f2 : w.1 * (sub c a).1 + w.2 * (sub c a).2 = 0 := by unfold dot at k2; unfold sub; simp only; grind
        have g1 : w.1 * crs (sub b a) (sub c a) = 0 := by unfold crs; grind
        have g2 : w.2 * crs (sub b a) (sub c a) = 0 := by unfold crs; grind
        exact hw (Prod.ext ((Int.mul_eq_zero.mp g1).resolve_right hne) ((Int.mul_eq_zero.mp g2).resolve_right hne))
      · rcases Int.lt_or_gt_of_ne k2 with q | q
        · exact ⟨c, hc, a, ha, q⟩
        · exact ⟨a, ha, c, hc, q⟩
    · rcases Int.lt_or_gt_of_ne k1 with q | q
      · exact ⟨b, hb, a, ha, q⟩
      · exact ⟨a, ha, b, hb, q⟩
  obtain ⟨p, hp, p', hp', hlt⟩ := two
  cases other with
  | nil => exact absurd rfl h2
  | cons q r =>
    have hq : q ∈ q :: r := List.mem_cons_self
    have g1 := gapZ_le (w := w) (z := z) hp hq
    have g2 := gapZ_le (w := v) (z := z) hp' hq
    have a0 : (0 : Rat) < (α : Rat) := by exact_mod_cast hα
    have b0 : (0 : Rat) < (β : Rat) := by exact_mod_cast hβ
    have c1 : (α : Rat) * (w.1 : Rat) + (β : Rat) * (v.1 : Rat) = 0 := by exact_mod_cast e1
    have c2 : (α : Rat) * (w.2 : Rat) + (β : Rat) * (v.2 : Rat) = 0 := by exact_mod_cast e2
    have lt : (w.1 : Rat) * (p'.1 : Rat) + (w.2 : Rat) * (p'.2 : Rat) < (w.1 : Rat) * (p.1 : Rat) + (w.2 : Rat) * (p.2 : Rat) := by
      unfold dot at hlt
      exact_mod_cast hlt
    have f : (α : Rat) * dq w (z.1 + (q.1 : Rat) - (p.1 : Rat), z.2 + (q.2 : Rat) - (p.2 : Rat)) + (β : Rat) * dq v (z.1 + (q.1 : Rat) - (p'.1 : Rat), z.2 + (q.2 : Rat) - (p'.2 : Rat)) = (α : Rat) * ((w.1 : Rat) * (p'.1 : Rat) + (w.2 : Rat) * (p'.2 : Rat) - ((w.1 : Rat) * (p.1 : Rat) + (w.2 : Rat) * (p.2 : Rat))) := by
      unfold dq
      simp only
      have d1 : (β : Rat) * (v.1 : Rat) = - ((α : Rat) * (w.1 : Rat)) := by grind
      have d2 : (β : Rat) * (v.2 : Rat) = - ((α : Rat) * (w.2 : Rat)) := by grind
      have : (β : Rat) * ((v.1 : Rat) * (z.1 + (q.1 : Rat) - (p'.1 : Rat)) + (v.2 : Rat) * (z.2 + (q.2 : Rat) - (p'.2 : Rat))) = ((β : Rat) * (v.1 : Rat)) * (z.1 + (q.1 : Rat) - (p'.1 : Rat)) + ((β : Rat) * (v.2 : Rat)) * (z.2 + (q.2 : Rat) - (p'.2 : Rat)) := by grind
      rw [this, d1, d2]
      grind
    have m1 := Rat.mul_nonneg (Rat.le_of_lt a0) (show 0 ≤ dq w (z.1 + (q.1 : Rat) - (p.1 : Rat), z.2 + (q.2 : Rat) - (p.2 : Rat)) - gapZ one (q :: r) w z by grind)
    have m2 := Rat.mul_nonneg (Rat.le_of_lt b0) (show 0 ≤ dq v (z.1 + (q.1 : Rat) - (p'.1 : Rat), z.2 + (q.2 : Rat) - (p'.2 : Rat)) - gapZ one (q :: r) v z by grind)
    have m3 := Rat.mul_pos a0 (show 0 < (w.1 : Rat) * (p.1 : Rat) + (w.2 : Rat) * (p.2 : Rat) - ((w.1 : Rat) * (p'.1 : Rat) + (w.2 : Rat) * (p'.2 : Rat)) by grind)
    grind
theorem M4 {a b : Bo} (h : PairOk a b) {u : Rat} (hu : 0 ≤ u) (hno : ¬ OverNow a b) {us : List P2} (hus : Ups a b us)
    (hmet : ∀ t, 0 ≤ t → t < u → (∃ w ∈ PW a b, rateT a b w < 0 ∧ gapT a b w t = 0) → ¬ MetAt a b t)
    (hcl : ∀ w ∈ PW a b, gapT a b w 0 < 0 ∨ gapT a b w u < 0) (hup : ∀ w ∈ us, gapT a b w 0 < 0) : False := by
  rcases hus with ⟨f0, _⟩ | ⟨f0, u0, rfl, un, _, ud, _⟩
  · apply hno
    intro w hw
    have e : rateT a b w = 0 := by
      unfold rateT dq
      rw [f0]
      grind
    rcases hcl w hw with q | q
    · exact q
    · rw [gap_lin a b w u 0, e] at q
      grind
  · have opn : ∃ w ∈ PW a b, 0 ≤ gapT a b w 0 := by
      by_cases q : ∃ w ∈ PW a b, 0 ≤ gapT a b w 0
      · exact q
      · exfalso
        apply hno
        intro w hw
        by_cases z : gapT a b w 0 < 0
        · exact z
        · exact absurd ⟨w, hw, Rat.not_lt.mp z⟩ q
    have sinks : ∀ w ∈ PW a b, 0 ≤ gapT a b w 0 → rateT a b w < 0 := fun w hw g => by
      rcases hcl w hw with q | q
      · grind
      · rw [gap_lin a b w u 0] at q
        by_cases z : rateT a b w < 0
        · exact z
        · have := Rat.mul_nonneg (a := rateT a b w) (b := u - 0) (by grind) (by grind)
          grind
    obtain ⟨w, hw, gw, hmax⟩ := best (P := fun w => 0 ≤ gapT a b w 0) (fun w => -gapT a b w 0 / rateT a b w) (PW a b) opn
    have rw' := sinks w hw gw
    obtain ⟨t, ht⟩ : ∃ t : Rat, t = -gapT a b w 0 / rateT a b w := ⟨_, rfl⟩
    have gt : gapT a b w t = 0 := by
      rw [gap_lin a b w t 0, ht]
      grind
    have t0 : 0 ≤ t := by
      have e : rateT a b w * t ≤ 0 := by
        rw [gap_lin a b w t 0] at gt
        grind
      exact neg_mul_le rw' e
    have tu : t < u := by
      rcases hcl w hw with q | q
      · grind
      · have k := met_le gt rw' (Rat.le_of_lt q)
        have ne : t ≠ u := fun e => by
          rw [← e, gt] at q
          grind
        grind
    have nm := hmet t t0 tu ⟨w, hw, rw', gt⟩
    -- one that is open there
    have bad : ∃ v ∈ PW a b, 0 ≤ gapT a b v t ∧ gapT a b v 0 < 0 := by
      by_cases q : ∃ v ∈ PW a b, 0 ≤ gapT a b v t ∧ gapT a b v 0 < 0
      · exact q
      · exfalso
        apply nm
        intro v hv
        by_cases g0 : 0 ≤ gapT a b v 0
        · have rv := sinks v hv g0
          have k := hmax v hv g0
          rw [← ht] at k
          have gs : gapT a b v (-gapT a b v 0 / rateT a b v) = 0 := by
            rw [gap_lin a b v _ 0]
            grind
          rw [gap_lin a b v t (-gapT a b v 0 / rateT a b v), gs]
          have m := Rat.mul_nonneg (a := -rateT a b v) (b := t - -gapT a b v 0 / rateT a b v) (by grind) (by grind)
          grind
        · by_cases g1 : 0 ≤ gapT a b v t
          · exact absurd ⟨v, hv, g1, by grind⟩ q
          · left; grind
    obtain ⟨v, hv, gvt, gv0⟩ := bad
    have rv : 0 < rateT a b v := by
      rw [gap_lin a b v t 0] at gvt
      by_cases z : 0 < rateT a b v
      · exact z
      · have := Rat.mul_nonneg (a := -rateT a b v) (b := t - 0) (by grind) (by grind)
        grind
    have α0 := (rate_pos_iff a b v).mpr rv
    have β0 := (rate_neg_iff a b w).mpr rw'
    obtain ⟨α, hα⟩ : ∃ α, α = dot v (fastF a b) := ⟨_, rfl⟩
    obtain ⟨β, hβ⟩ : ∃ β, β = - dot w (fastF a b) := ⟨_, rfl⟩
    obtain ⟨x, hx⟩ : ∃ x : P2, x = (α * w.1 + β * v.1, α * w.2 + β * v.2) := ⟨_, rfl⟩
    have x1 : x.1 = α * w.1 + β * v.1 := by rw [hx]
    have x2 : x.2 = α * w.2 + β * v.2 := by rw [hx]
    have hw0 : w ≠ (0, 0) := fun e => by
      unfold rateT dq at rw'
      rw [e] at rw'
      grind
    have αp : 0 < α := by omega
    have βp : 0 < β := by omega
    have aa : (0 : Rat) < (α : Rat) := by exact_mod_cast αp
    have bb : (0 : Rat) < (β : Rat) := by exact_mod_cast βp
    have gw' : gapZ a.cs b.cs w (goneQ a b t) = 0 := by rw [← gapT_Z]; exact gt
    have gv' : 0 ≤ gapZ a.cs b.cs v (goneQ a b t) := by rw [← gapT_Z]; exact gvt
    have m := Rat.mul_nonneg (Rat.le_of_lt bb) gv'
    have sup := gap_super h.ga.ne h.gb.ne (Int.le_of_lt αp) (Int.le_of_lt βp) x1 x2 (goneQ a b t)
    rw [gw'] at sup
    have gx : 0 ≤ gapZ a.cs b.cs x (goneQ a b t) := by grind
    have dx : dot x (fastF a b) = 0 := by
      unfold dot
      rw [x1, x2, hβ, hα]
      unfold dot
      grind
    have du : dot u0 (fastF a b) = 0 := by
      have e := fast_dot a b u0
      have : rateT a b u0 = 0 := ud
      rw [this] at e
      have e' : ((dot u0 (fastF a b) : Int) : Rat) = 0 := by grind
      exact Rat.intCast_eq_zero_iff.mp e'
    have hF := fastF_ne f0
    have cx : crs x u0 = 0 := by
      generalize fastF a b = f at *
      have c1 : crs x u0 * f.1 = 0 := by unfold crs; unfold dot at dx du; grind
      have c2 : crs x u0 * f.2 = 0 := by unfold crs; unfold dot at dx du; grind
      by_cases z : crs x u0 = 0
      · exact z
      · exact absurd (Prod.ext ((Int.mul_eq_zero.mp c1).resolve_left z) ((Int.mul_eq_zero.mp c2).resolve_left z)) hF
    have sq := sq_pos un
    have s1 : x.1 * (u0.1 * u0.1 + u0.2 * u0.2) = u0.1 * dot x u0 := by unfold dot; unfold crs at cx; grind
    have s2 : x.2 * (u0.1 * u0.1 + u0.2 * u0.2) = u0.2 * dot x u0 := by unfold dot; unfold crs at cx; grind
    have ups : ∀ y ∈ [u0, neg u0], gapZ a.cs b.cs y (goneQ a b t) < 0 := fun y hy => by
      rw [← gapT_Z]
      have r0 : rateT a b y = 0 := by
        simp only [List.mem_cons, List.not_mem_nil, or_false] at hy
        rcases hy with rfl | rfl
        · exact ud
        · unfold rateT dq neg
          unfold dq at ud
          simp only
          push_cast
          grind
      have := hup y hy
      rw [gap_lin a b y t 0, r0]
      grind
    by_cases d1 : 0 < dot x u0
    · have := gap_scale h.ga.ne h.gb.ne sq d1 s1 s2 (ups u0 (by simp))
      grind
    · by_cases d2 : dot x u0 < 0
      · have := gap_scale h.ga.ne h.gb.ne (d := x) (n := neg u0) (x := - dot x u0) sq (by omega) (by unfold neg; simp only; grind) (by unfold neg; simp only; grind) (ups (neg u0) (by simp))
        grind
      · have d0 : dot x u0 = 0 := by omega
        rw [d0] at s1 s2
        have z1 : x.1 = 0 := (Int.mul_eq_zero.mp (by omega : x.1 * (u0.1 * u0.1 + u0.2 * u0.2) = 0)).resolve_right (by omega)
        have z2 : x.2 = 0 := (Int.mul_eq_zero.mp (by omega : x.2 * (u0.1 * u0.1 + u0.2 * u0.2) = 0)).resolve_right (by omega)
        have wd := gap_width h.ga.nc h.gb.ne αp βp hw0 (by rw [← x1]; exact z1) (by rw [← x2]; exact z2) (goneQ a b t)
        rw [gw'] at wd
        grind
end K23
/-! shapes: two chains make a good one -/
namespace K23
/-- to the right, or straight up -/
def Rp (v : P2) : Prop := 0 < v.1 ∨ v.1 = 0 ∧ 0 < v.2
theorem Rp.add {u v : P2} (h : Rp u) (k : Rp v) : Rp (u.1 + v.1, u.2 + v.2) := by unfold Rp at *; simp only; omega
theorem Rp.nn {u : P2} (h : Rp u) : 0 ≤ u.1 := by unfold Rp at h; omega
theorem crs_trans {u v w : P2} (hu : Rp u) (hv : Rp v) (hw : Rp w) (h1 : 0 < crs u v) (h2 : 0 < crs v w) : 0 < crs u w := by
  have e : v.1 * crs u w = u.1 * crs v w + w.1 * crs u v := by unfold crs; grind
  rcases hv with v1 | ⟨v1, v2⟩
  · have u1 : 0 < u.1 := by
      rcases hu with q | ⟨q, q2⟩
      · exact q
      · exfalso
        have : crs u v = - (u.2 * v.1) := by unfold crs; rw [q]; grind
        have := Int.mul_pos q2 v1
        omega
    have m1 := Int.mul_pos u1 h2
    have m2 := Int.mul_nonneg hw.nn (Int.le_of_lt h1)
    have m : 0 < v.1 * crs u w := by omega
    exact Int.pos_of_mul_pos_right m v1
  · exfalso
    have : crs v w = - (v.2 * w.1) := by unfold crs; rw [v1]; grind
    have := Int.mul_nonneg (Int.le_of_lt v2) hw.nn
    omega
/-- a chain: always on, always turning left -/
def Ch : List P2 → Prop
  | a :: b :: c :: r => Rp (sub b a) ∧ 0 < crs (sub b a) (sub c b) ∧ Ch (b :: c :: r)
  | [a, b] => Rp (sub b a)
  | _ => True
/-- c and then d -/
def Nx : List P2 → P2 → P2 → Prop
  | a :: b :: r, c, d => (c = a ∧ d = b) ∨ Nx (b :: r) c d
  | _, _, _ => False
theorem Ch.hd {a b : P2} {r : List P2} (h : Ch (a :: b :: r)) : Rp (sub b a) := by
  cases r with
  | nil => exact h
  | cons c r => exact h.1
theorem Ch.tl {a b : P2} {r : List P2} (h : Ch (a :: b :: r)) : Ch (b :: r) := by
  cases r with
  | nil => trivial
  | cons c r => exact h.2.2
theorem Ch.later : ∀ {r : List P2} {a b c d : P2}, Ch (a :: b :: r) → Nx (b :: r) c d → 0 < crs (sub b a) (sub d c) ∧ Rp (sub d c)
  | [], a, b, c, d, _, n => n.elim
  | x :: r, a, b, c, d, h, n => by
    rcases n with ⟨rfl, rfl⟩ | n
    · exact ⟨h.2.1, h.2.2.hd⟩
    · have q := Ch.later h.2.2 n
      exact ⟨crs_trans h.1 h.2.2.hd q.2 h.2.1 q.1, q.2⟩
theorem sub_add (a b c : P2) (u : P2) : crs u (sub c a) = crs u (sub b a) + crs u (sub c b) := by unfold crs sub; simp only; grind
theorem sub_add' (a b c : P2) (u : P2) : crs (sub c a) u = crs (sub b a) u + crs (sub c b) u := by unfold crs sub; simp only; grind
theorem crs_self (u : P2) : crs u u = 0 := by unfold crs; grind
theorem sub_self (a : P2) : sub a a = (0, 0) := by unfold sub; simp
theorem crs_zero (u : P2) : crs u (0, 0) = 0 := by unfold crs; simp
theorem zero_crs (u : P2) : crs (0, 0) u = 0 := by unfold crs; simp
/-- to all points behind -/
theorem on_ge {u : P2} : ∀ {r : List P2} {b : P2}, (∀ c d, Nx (b :: r) c d → 0 < crs u (sub d c)) → ∀ x ∈ b :: r, 0 ≤ crs u (sub x b) ∧ (x ∈ r → 0 < crs u (sub x b))
  | [], b, _, x, hx => by
    have : x = b := by simpa using hx
    rw [this, sub_self, crs_zero]
    exact ⟨Int.le_refl _, fun q => by cases q⟩
  | c :: r, b, h, x, hx => by
    have h0 := h b c (.inl ⟨rfl, rfl⟩)
    have key : x ∈ c :: r → 0 < crs u (sub x b) := fun q => by
      have := (on_ge (fun c' d' n => h c' d' (.inr n)) x q).1
      rw [sub_add b c x u]
      omega
    rcases List.mem_cons.mp hx with rfl | q
    · exact ⟨by rw [sub_self, crs_zero]; exact Int.le_refl _, key⟩
    · exact ⟨Int.le_of_lt (key q), key⟩
/-- from all points to the last one -/
theorem to_last {u : P2} : ∀ {r : List P2} {b z : P2}, (b :: r).getLast? = some z → (∀ c d, Nx (b :: r) c d → 0 < crs u (sub d c)) → ∀ x ∈ b :: r, 0 ≤ crs u (sub z x)
  | [], b, z, e, _, x, hx => by
    have : b = z := by simpa using e
    have : x = b := by simpa using hx
    subst_vars
    rw [sub_self, crs_zero]
    exact Int.le_refl _
  | c :: r, b, z, e, h, x, hx => by
    have e' : (c :: r).getLast? = some z := by simpa using e
    have ih := to_last e' fun c' d' n => h c' d' (.inr n)
    rcases List.mem_cons.mp hx with rfl | q
    · have h0 := h x c (.inl ⟨rfl, rfl⟩)
      have := ih c List.mem_cons_self
      rw [sub_add x c z u]
      omega
    · exact ih x q
/-- up to an edge -/
theorem before_ge : ∀ {l : List P2} {a c d : P2}, Ch (a :: l) → Nx (a :: l) c d → 0 ≤ crs (sub c a) (sub d c)
  | [], a, c, d, _, n => n.elim
  | b :: r, a, c, d, h, n => by
    rcases n with ⟨rfl, rfl⟩ | n
    · rw [sub_self, zero_crs]
      exact Int.le_refl _
    · have q1 := (h.later n).1
      have q2 := before_ge h.tl n
      rw [sub_add' a b c]
      omega
/-- all points of a chain lie left of each of its edges -/
theorem own_left : ∀ {l : List P2} {c d x : P2}, Ch l → Nx l c d → x ∈ l → 0 ≤ crs (sub d c) (sub x c)
  | [], _, _, _, _, n, _ => n.elim
  | [a], _, _, _, _, n, _ => n.elim
  | a :: b :: r, c, d, x, h, n, hx => by
    rcases n with ⟨rfl, rfl⟩ | n
    · rcases List.mem_cons.mp hx with rfl | hx
      · rw [sub_self, crs_zero]; exact Int.le_refl _
      · have := (on_ge (fun c' d' n' => (h.later n').1) x hx).1
        rw [sub_add c d x, crs_self]
        omega
    · rcases List.mem_cons.mp hx with rfl | hx
      · have q1 := (h.later n).1
        have q2 := before_ge h.tl n
        have e : crs (sub d c) (sub x c) = crs (sub b x) (sub d c) + crs (sub c b) (sub d c) := by unfold crs sub; simp only; grind
        omega
      · exact own_left h.tl n hx
/-- a chain lies below its chord -/
theorem below : ∀ {l : List P2} {a z x : P2}, Ch (a :: l) → (a :: l).getLast? = some z → x ∈ a :: l → 0 ≤ crs (sub x a) (sub z x)
  | [], a, z, x, _, e, hx => by
    have : x = a := by simpa using hx
    rw [this, sub_self, zero_crs]
    exact Int.le_refl _
  | b :: r, a, z, x, h, e, hx => by
    rcases List.mem_cons.mp hx with rfl | hx
    · rw [sub_self, zero_crs]; exact Int.le_refl _
    · have e' : (b :: r).getLast? = some z := by simpa using e
      have q1 := below h.tl e' hx
      have q2 := to_last e' (fun c d n => (h.later n).1) x hx
      rw [sub_add' a b x]
      omega
theorem ch_left : ∀ {l : List P2} {a x : P2}, Ch (a :: l) → x ∈ a :: l → a.1 ≤ x.1
  | [], a, x, _, hx => by
    have : x = a := by simpa using hx
    rw [this]; exact Int.le_refl _
  | b :: r, a, x, h, hx => by
    rcases List.mem_cons.mp hx with rfl | hx
    · exact Int.le_refl _
    · have q1 := h.hd.nn
      have q2 := ch_left h.tl hx
      unfold sub at q1
      simp only at q1
      omega
theorem ch_right : ∀ {l : List P2} {a z x : P2}, Ch (a :: l) → (a :: l).getLast? = some z → x ∈ a :: l → x.1 ≤ z.1
  | [], a, z, x, _, e, hx => by
    have : a = z := by simpa using e
    have : x = a := by simpa using hx
    subst_vars
    exact Int.le_refl _
  | b :: r, a, z, x, h, e, hx => by
    have e' : (b :: r).getLast? = some z := by simpa using e
    rcases List.mem_cons.mp hx with rfl | hx
    · have q1 := h.hd.nn
      have q2 := ch_right h.tl e' (x := b) List.mem_cons_self
      unfold sub at q1
      simp only at q1
      omega
    · exact ch_right h.tl e' hx
theorem nx_hp : ∀ {l : List P2} {c d : P2}, Ch l → Nx l c d → Rp (sub d c)
  | [], _, _, _, n => n.elim
  | [a], _, _, _, n => n.elim
  | a :: b :: r, c, d, h, n => by
    rcases n with ⟨rfl, rfl⟩ | n
    · exact h.hd
    · exact nx_hp h.tl n
/-- a point of a chain stands at an end, or turns -/
theorem ch_at : ∀ {l : List P2} {p : P2}, Ch l → p ∈ l → l.head? = some p ∨ l.getLast? = some p ∨ ∃ o q, Nx l o p ∧ Nx l p q ∧ 0 < crs (sub p o) (sub q p)
  | [], p, _, hp => by cases hp
  | [a], p, _, hp => by
    have : p = a := by simpa using hp
    rw [this]; exact .inl rfl
  | [a, b], p, _, hp => by
    have : p = a ∨ p = b := by simpa using hp
    rcases this with rfl | rfl
    · exact .inl rfl
    · exact .inr (.inl rfl)
  | a :: b :: c :: r, p, h, hp => by
    rcases List.mem_cons.mp hp with rfl | hp
    · exact .inl rfl
    · rcases ch_at h.2.2 hp with q | q | ⟨o, q, n1, n2, t⟩
      · have : b = p := by simpa using q
        subst this
        exact .inr (.inr ⟨a, c, .inl ⟨rfl, rfl⟩, .inr (.inl ⟨rfl, rfl⟩), h.2.1⟩)
      · exact .inr (.inl (by simpa using q))
      · exact .inr (.inr ⟨o, q, .inr n1, .inr n2, t⟩)
/-- the first edge and the chord -/
theorem first_edge {a b z : P2} {r : List P2} (h : Ch (a :: b :: r)) (e : (a :: b :: r).getLast? = some z) : 0 ≤ crs (sub b a) (sub z a) ∧ (r ≠ [] → 0 < crs (sub b a) (sub z a)) := by
  have e' : (b :: r).getLast? = some z := by simpa using e
  have zm : z ∈ b :: r := List.mem_of_getLast? e'
  have q := on_ge (fun c d n => (h.later n).1) z zm
  rw [sub_add a b z, crs_self]
  refine ⟨by omega, fun hr => ?_⟩
  have : z ∈ r := by
    cases r with
    | nil => exact absurd rfl hr
    | cons c r =>
      have e2 : (c :: r).getLast? = some z := by simpa using e'
      exact List.mem_of_getLast? e2
  have := q.2 this
  omega
/-- the last edge and the chord -/
theorem last_edge : ∀ {r : List P2} {a b z : P2}, Ch (a :: b :: r) → (a :: b :: r).getLast? = some z → ∃ o, Nx (a :: b :: r) o z ∧ 0 ≤ crs (sub z a) (sub z o) ∧ (r ≠ [] → 0 < crs (sub z a) (sub z o))
  | [], a, b, z, h, e => by
    have : b = z := by simpa using e
    subst this
    exact ⟨a, .inl ⟨rfl, rfl⟩, by rw [crs_self]; exact Int.le_refl _, fun q => absurd rfl q⟩
  | c :: r, a, b, z, h, e => by
    have e' : (b :: c :: r).getLast? = some z := by simpa using e
    obtain ⟨o, n, q1, q2⟩ := last_edge h.2.2 e'
    refine ⟨o, .inr n, ?_, fun _ => ?_⟩
    · rw [sub_add' a b z]
      have := (h.later n).1
      omega
    · rw [sub_add' a b z]
      have := (h.later n).1
      omega
end K23
/-! two chains make a good shape -/
namespace K23
theorem cone_of {cs W : List P2} (ne : cs ≠ []) (H : ∀ p ∈ cs, ∃ o ∈ cs, ∃ q ∈ cs, sideW o p ∈ W ∧ sideW p q ∈ W ∧ (∀ x ∈ cs, 0 ≤ crs (sub p o) (sub x o)) ∧ (∀ x ∈ cs, 0 ≤ crs (sub q p) (sub x p)) ∧ 0 < crs (sub p o) (sub q p)) : Cone cs W := by
  intro d hd
  obtain ⟨p, hp, ep⟩ := reach_mem d ne
  obtain ⟨o, ho, q, hq, w1, w2, l1, l2, t⟩ := H p hp
  have no : p.2 - o.2 ≠ 0 ∨ o.1 - p.1 ≠ 0 := by
    by_cases z : p.2 - o.2 = 0
    · right
      intro z2
      have : crs (sub p o) (sub q p) = 0 := by
        unfold crs sub
        simp only
        rw [show p.1 - o.1 = 0 by omega, z]
        simp
      omega
    · exact .inl z
  have nq : q.2 - p.2 ≠ 0 ∨ p.1 - q.1 ≠ 0 := by
    by_cases z : q.2 - p.2 = 0
    · right
      intro z2
      have : crs (sub p o) (sub q p) = 0 := by
        unfold crs sub
        simp only
        rw [show q.1 - p.1 = 0 by omega, z]
        simp
      omega
    · exact .inl z
  obtain ⟨g, g0, g1, g2⟩ := cut_scale no
  obtain ⟨k, k0, k1, k2⟩ := cut_scale nq
  have dmax : ∀ x ∈ cs, dot d x ≤ dot d p := fun x hx => by rw [← ep]; exact reach_ge hx
  refine ⟨sideW o p, w1, sideW p q, w2, p, hp, fun x hx => ?_, fun x hx => ?_, ?_, ?_, ?_⟩
  · unfold sideW wayM
    generalize cutM (p.2 - o.2) (o.1 - p.1) = n at g1 g2 ⊢
    have e : g * (dot n p - dot n x) = crs (sub p o) (sub x o) := by
      have : g * (dot n p - dot n x) = (g * n.1) * (p.1 - x.1) + (g * n.2) * (p.2 - x.2) := by unfold dot; grind
      rw [this, ← g1, ← g2]
      unfold crs sub
      simp only
      grind
    have := l1 x hx
    rw [← e] at this
    have := Int.nonneg_of_mul_nonneg_right this g0
    omega
  · unfold sideW wayM
    generalize cutM (q.2 - p.2) (p.1 - q.1) = n at k1 k2 ⊢
    have e : k * (dot n p - dot n x) = crs (sub q p) (sub x p) := by
      have : k * (dot n p - dot n x) = (k * n.1) * (p.1 - x.1) + (k * n.2) * (p.2 - x.2) := by unfold dot; grind
      rw [this, ← k1, ← k2]
      unfold crs sub
      simp only
      grind
    have := l2 x hx
    rw [← e] at this
    have := Int.nonneg_of_mul_nonneg_right this k0
    omega
  · unfold sideW wayM
    generalize cutM (p.2 - o.2) (o.1 - p.1) = n at g1 g2 ⊢
    have e : g * crs n d = dot d p - dot d o := by
      have : g * crs n d = (g * n.1) * d.2 - (g * n.2) * d.1 := by unfold crs; grind
      rw [this, ← g1, ← g2]
      unfold dot
      grind
    have := dmax o ho
    exact Int.nonneg_of_mul_nonneg_right (by rw [e]; omega) g0
  · unfold sideW wayM
    generalize cutM (q.2 - p.2) (p.1 - q.1) = n at k1 k2 ⊢
    have e : k * crs d n = dot d p - dot d q := by
      have : k * crs d n = d.1 * (k * n.2) - d.2 * (k * n.1) := by unfold crs; grind
      rw [this, ← k1, ← k2]
      unfold dot
      grind
    have := dmax q hq
    exact Int.nonneg_of_mul_nonneg_right (by rw [e]; omega) k0
  · unfold sideW wayM
    generalize cutM (p.2 - o.2) (o.1 - p.1) = n at g1 g2 ⊢
    generalize cutM (q.2 - p.2) (p.1 - q.1) = m at k1 k2 ⊢
    have e : (g * k) * crs n m = crs (sub p o) (sub q p) := by
      have : (g * k) * crs n m = (g * n.1) * (k * m.2) - (g * n.2) * (k * m.1) := by unfold crs; grind
      rw [this, ← g1, ← g2, ← k1, ← k2]
      unfold crs sub
      simp only
      grind
    exact Int.pos_of_mul_pos_right (by rw [e]; exact t) (Int.mul_pos g0 k0)
theorem nx_right : ∀ {l s : List P2} {x y : P2}, Nx s x y → Nx (l ++ s) x y
  | [], s, x, y, h => h
  | [a], [], x, y, h => h.elim
  | [a], [b], x, y, h => h.elim
  | [a], b :: c :: s, x, y, h => .inr h
  | a :: b :: l, s, x, y, h => .inr (nx_right (l := b :: l) h)
theorem nx_left : ∀ {l s : List P2} {x y : P2}, Nx l x y → Nx (l ++ s) x y
  | [], _, _, _, h => h.elim
  | [_], _, _, _, h => h.elim
  | a :: b :: l, s, x, y, h => by
    rcases h with h | h
    · exact .inl h
    · exact .inr (nx_left (l := b :: l) h)
theorem nx_cut : ∀ {l s : List P2} {z x y : P2}, Nx (l ++ z :: s) x y → Nx (l ++ [z]) x y ∨ Nx (z :: s) x y
  | [], s, z, x, y, h => .inr h
  | [a], s, z, x, y, h => by
    rcases h with h | h
    · exact .inl (.inl h)
    · exact .inr h
  | a :: b :: l, s, z, x, y, h => by
    rcases h with h | h
    · exact .inl (.inl h)
    · rcases nx_cut (l := b :: l) h with q | q
      · exact .inl (.inr q)
      · exact .inr q
theorem side_mem : ∀ {r : List P2} {c e x y : P2}, Nx ((c :: r) ++ [e]) x y → sideW x y ∈ sideWs (c :: r) e
  | [], c, e, x, y, h => by
    rcases h with ⟨rfl, rfl⟩ | h
    · simp [sideWs]
    · exact h.elim
  | d :: r, c, e, x, y, h => by
    unfold sideWs
    rcases h with ⟨rfl, rfl⟩ | h
    · exact List.mem_cons_self
    · exact List.mem_cons_of_mem _ (side_mem h)
theorem steps_of : ∀ {r : List P2} {c e : P2}, (∀ x y, Nx ((c :: r) ++ [e]) x y → x ≠ y) → Steps (c :: r) e
  | [], c, e, h => h c e (.inl ⟨rfl, rfl⟩)
  | d :: r, c, e, h => ⟨h c d (.inl ⟨rfl, rfl⟩), steps_of fun x y n => h x y (.inr n)⟩
theorem neg_sub (a b : P2) : sub (neg a) (neg b) = neg (sub a b) := by unfold sub neg; simp only; grind
theorem crs_neg_sub (a b c d : P2) : crs (sub (neg a) (neg b)) (sub (neg c) (neg d)) = crs (sub a b) (sub c d) := by rw [neg_sub, neg_sub, crs_neg]
theorem nx_neg : ∀ {l : List P2} {x y : P2}, Nx l x y → Nx (l.map neg) (neg x) (neg y)
  | [], _, _, h => h.elim
  | [_], _, _, h => h.elim
  | a :: b :: l, x, y, h => by
    rcases h with ⟨rfl, rfl⟩ | h
    · exact .inl ⟨rfl, rfl⟩
    · exact .inr (nx_neg (l := b :: l) h)
theorem neg_map (l : List P2) : (l.map neg).map neg = l := by
  rw [List.map_map]
  have : (neg ∘ neg) = id := funext fun x => neg_neg x
  rw [this, List.map_id]
theorem nx_mem : ∀ {l : List P2} {x y : P2}, Nx l x y → x ∈ l ∧ y ∈ l
  | [], _, _, h => h.elim
  | [_], _, _, h => h.elim
  | a :: b :: l, x, y, h => by
    rcases h with ⟨rfl, rfl⟩ | h
    · exact ⟨List.mem_cons_self, List.mem_cons_of_mem _ List.mem_cons_self⟩
    · have := nx_mem (l := b :: l) h
      exact ⟨List.mem_cons_of_mem _ this.1, List.mem_cons_of_mem _ this.2⟩
/-- where the two chains meet, too, it turns left -/
theorem junction {V e f : P2} (hV : 0 < V.1) (he : Rp e) (hf : Rp (neg f)) (h1 : 0 ≤ crs V e) (h2 : 0 ≤ crs V f) (hs : 0 < crs V e ∨ 0 < crs V f) : 0 < crs e f := by
  have idn : V.1 * crs e f = e.1 * crs V f + (-f.1) * crs V e := by unfold crs; grind
  have f1 : 0 < -f.1 := by
    rcases hf with q | ⟨q, q2⟩
    · exact q
    · exfalso
      have q : -f.1 = 0 := q
      have q2 : 0 < -f.2 := q2
      have e : crs V f = - (V.1 * (-f.2)) := by unfold crs; rw [show f.1 = 0 by omega]; grind
      have := Int.mul_pos hV q2
      omega
  have m : 0 < V.1 * crs e f := by
    rw [idn]
    by_cases z : 0 < crs V e
    · have m1 := Int.mul_pos f1 z
      have m2 := Int.mul_nonneg he.nn h2
      omega
    · have z0 : crs V e = 0 := by omega
      have zf : 0 < crs V f := by omega
      have e1 : 0 < e.1 := by
        rcases he with q | ⟨q, q2⟩
        · exact q
        · exfalso
          have : crs V e = V.1 * e.2 := by unfold crs; rw [q]; grind
          have := Int.mul_pos hV q2
          omega
      have m1 := Int.mul_pos e1 zf
      rw [z0]
      omega
  exact Int.pos_of_mul_pos_right m hV
/-- one chain seen from the other's edge -/
theorem over_edge {L R c x e : P2} (hV : 0 < (sub R L).1) (hL : 0 ≤ crs e (sub L c)) (hR : 0 ≤ crs e (sub R c)) (x1 : L.1 ≤ x.1) (x2 : x.1 ≤ R.1) (h : 0 ≤ e.1 * crs (sub R L) (sub x L)) : 0 ≤ crs e (sub x c) := by
  have idn : (sub R L).1 * crs e (sub x c) = (R.1 - x.1) * crs e (sub L c) + (x.1 - L.1) * crs e (sub R c) + e.1 * crs (sub R L) (sub x L) := by
    unfold crs sub
    simp only
    grind
  have m1 := Int.mul_nonneg (a := R.1 - x.1) (by omega) hL
  have m2 := Int.mul_nonneg (a := x.1 - L.1) (by omega) hR
  exact Int.nonneg_of_mul_nonneg_right (by rw [idn]; omega) hV
theorem drop_last : ∀ {l : List P2} {z : P2}, l.getLast? = some z → l.dropLast ++ [z] = l
  | [], _, e => by cases e
  | [a], z, e => by
    have : a = z := by simpa using e
    rw [this]
    rfl
  | a :: b :: l, z, e => by
    have := drop_last (l := b :: l) (z := z) (by simpa using e)
    rw [List.dropLast_cons_of_ne_nil (by simp), List.cons_append, this]
theorem twoChains {L b R b' : P2} {r r' : List P2} (h1 : Ch (L :: b :: r)) (e1 : (L :: b :: r).getLast? = some R) (h2 : Ch ((R :: b' :: r').map neg)) (e2 : (R :: b' :: r').getLast? = some L) (hr : r ≠ [] ∨ r' ≠ [])
    (hs : ∀ x, x ∈ L :: b :: r ∨ x ∈ R :: b' :: r' → BW 21 x) (hl : r.length + r'.length ≤ 38) : Good ((L :: b :: r).dropLast ++ (R :: b' :: r').dropLast) := by
  have Rm : R ∈ L :: b :: r := List.mem_of_getLast? e1
  have Lm : L ∈ R :: b' :: r' := List.mem_of_getLast? e2
  have e2' : ((R :: b' :: r').map neg).getLast? = some (neg L) := by rw [List.getLast?_map, e2]; rfl
  have upm : ∀ {x}, x ∈ R :: b' :: r' → neg x ∈ (R :: b' :: r').map neg := fun h => List.mem_map.mpr ⟨_, h, rfl⟩
  -- all between L and R
  have lx : ∀ x, x ∈ L :: b :: r ∨ x ∈ R :: b' :: r' → L.1 ≤ x.1 ∧ x.1 ≤ R.1 := fun x hx => by
    rcases hx with hx | hx
    · exact ⟨ch_left h1 hx, ch_right h1 e1 hx⟩
    · have q1 := ch_left h2 (upm hx)
      have q2 := ch_right h2 e2' (upm hx)
      have q1 : -R.1 ≤ -x.1 := q1
      have q2 : -x.1 ≤ -L.1 := q2
      omega
  have hV : 0 < (sub R L).1 := by
    have v0 := (lx R (.inl Rm)).1
    by_cases z : 0 < (sub R L).1
    · exact z
    · exfalso
      have eq : ∀ x, x ∈ L :: b :: r ∨ x ∈ R :: b' :: r' → x.1 = L.1 := fun x hx => by
        have := lx x hx
        have z : ¬ 0 < R.1 - L.1 := z
        omega
      have flat : ∀ {a b c d : P2}, a.1 = b.1 → c.1 = d.1 → crs (sub a b) (sub c d) = 0 := fun e f => by
        unfold crs sub
        simp only
        rw [e, f]
        simp
      rcases hr with q | q
      · cases r with
        | nil => exact q rfl
        | cons c r =>
          have t := h1.2.1
          rw [flat (by rw [eq b (.inl (by simp)), eq L (.inl (by simp))]) (by rw [eq c (.inl (by simp)), eq b (.inl (by simp))])] at t
          omega
      · cases r' with
        | nil => exact q rfl
        | cons c r =>
          have t : 0 < crs (sub (neg b') (neg R)) (sub (neg c) (neg b')) := h2.2.1
          rw [crs_neg_sub, flat (by rw [eq b' (.inr (by simp)), eq R (.inr (by simp))]) (by rw [eq c (.inr (by simp)), eq b' (.inr (by simp))])] at t
          omega
  -- below and above the chord
  have lowS : ∀ x ∈ L :: b :: r, crs (sub R L) (sub x L) ≤ 0 := fun x hx => by
    have q := below h1 e1 hx
    have : crs (sub R L) (sub x L) = - crs (sub x L) (sub R x) := by unfold crs sub; simp only; grind
    omega
  have upS : ∀ x ∈ R :: b' :: r', 0 ≤ crs (sub R L) (sub x L) := fun x hx => by
    have q := below h2 e2' (upm hx)
    rw [crs_neg_sub] at q
    have : crs (sub R L) (sub x L) = crs (sub x R) (sub L x) := by unfold crs sub; simp only; grind
    omega
  have left1 : ∀ c d, Nx (L :: b :: r) c d → ∀ x, x ∈ L :: b :: r ∨ x ∈ R :: b' :: r' → 0 ≤ crs (sub d c) (sub x c) := fun c d n x hx => by
    by_cases hx1 : x ∈ L :: b :: r
    · exact own_left h1 n hx1
    · have hx2 := hx.resolve_left hx1
      exact over_edge hV (own_left h1 n List.mem_cons_self) (own_left h1 n Rm) (lx x hx).1 (lx x hx).2 (Int.mul_nonneg (nx_hp h1 n).nn (upS x hx2))
  have left2 : ∀ c d, Nx (R :: b' :: r') c d → ∀ x, x ∈ L :: b :: r ∨ x ∈ R :: b' :: r' → 0 ≤ crs (sub d c) (sub x c) := fun c d n x hx => by
    have own : ∀ y ∈ R :: b' :: r', 0 ≤ crs (sub d c) (sub y c) := fun y hy => by
      have q := own_left h2 (nx_neg n) (upm hy)
      rw [crs_neg_sub] at q
      exact q
    by_cases hx2 : x ∈ R :: b' :: r'
    · exact own x hx2
    · have hx1 := hx.resolve_right hx2
      have p := (nx_hp h2 (nx_neg n)).nn
      rw [neg_sub] at p
      have p : 0 ≤ -(sub d c).1 := p
      refine over_edge hV (own L Lm) (own R List.mem_cons_self) (lx x hx).1 (lx x hx).2 ?_
      have := Int.mul_nonneg p (show 0 ≤ - crs (sub R L) (sub x L) by have := lowS x hx1; omega)
      rw [Int.neg_mul_neg] at this
      exact this
  -- the corners
  obtain ⟨o1, no1, g1, g1s⟩ := last_edge h1 e1
  obtain ⟨o2, no2, g2, g2s⟩ := last_edge (r := r'.map neg) (a := neg R) (b := neg b') h2 e2'
  obtain ⟨f1, f1s⟩ := first_edge h1 e1
  obtain ⟨f2, f2s⟩ := first_edge (r := r'.map neg) (a := neg R) (b := neg b') h2 e2'
  rw [crs_neg_sub] at f2 f2s
  have no2' : Nx (R :: b' :: r') (neg o2) L := by
    have q := nx_neg no2
    rw [neg_neg] at q
    have e : (neg R :: neg b' :: r'.map neg).map neg = R :: b' :: r' := neg_map (R :: b' :: r')
    rw [e] at q
    exact q
  have rne : r' ≠ [] → r'.map neg ≠ [] := fun q z => q (by simpa using z)
  have atR : 0 < crs (sub R o1) (sub b' R) := by
    refine junction hV (nx_hp h1 no1) ?_ g1 ?_ ?_
    · have : Rp (sub (neg b') (neg R)) := h2.hd
      rw [neg_sub] at this
      exact this
    · have : crs (sub R L) (sub b' R) = crs (sub b' R) (sub L R) := by unfold crs sub; simp only; grind
      omega
    · rcases hr with q | q
      · exact .inl (g1s q)
      · right
        have : crs (sub R L) (sub b' R) = crs (sub b' R) (sub L R) := by unfold crs sub; simp only; grind
        have := f2s (rne q)
        omega
  have atL : 0 < crs (sub L (neg o2)) (sub b L) := by
    have hV' : 0 < (sub (neg L) (neg R)).1 := by
      show 0 < -L.1 - -R.1
      have : 0 < R.1 - L.1 := hV
      omega
    have V' : sub (neg L) (neg R) = sub R L := by unfold sub neg; simp only; grind
    have fl : crs (sub (neg L) (neg R)) (neg (sub b L)) = crs (sub b L) (sub R L) := by rw [V']; unfold crs neg; simp only; grind
    have q := junction (V := sub (neg L) (neg R)) (e := sub (neg L) o2) (f := neg (sub b L)) hV' (nx_hp h2 no2) (by rw [neg_neg]; exact h1.hd) g2 (by rw [fl]; exact f1) (by
      rcases hr with q | q
      · right
        rw [fl]
        exact f1s q
      · exact .inl (g2s (rne q)))
    have e : crs (sub L (neg o2)) (sub b L) = crs (sub (neg L) o2) (neg (sub b L)) := by unfold crs sub neg; simp only; grind
    rw [e]
    exact q
  -- each corner
  have corner : ∀ p, p ∈ L :: b :: r ∨ p ∈ R :: b' :: r' → ∃ o q, (Nx (L :: b :: r) o p ∨ Nx (R :: b' :: r') o p) ∧ (Nx (L :: b :: r) p q ∨ Nx (R :: b' :: r') p q) ∧ 0 < crs (sub p o) (sub q p) := by
    have cL : ∃ o q, (Nx (L :: b :: r) o L ∨ Nx (R :: b' :: r') o L) ∧ (Nx (L :: b :: r) L q ∨ Nx (R :: b' :: r') L q) ∧ 0 < crs (sub L o) (sub q L) := ⟨neg o2, b, .inr no2', .inl (.inl ⟨rfl, rfl⟩), atL⟩
    have cR : ∃ o q, (Nx (L :: b :: r) o R ∨ Nx (R :: b' :: r') o R) ∧ (Nx (L :: b :: r) R q ∨ Nx (R :: b' :: r') R q) ∧ 0 < crs (sub R o) (sub q R) := ⟨o1, b', .inl no1, .inr (.inl ⟨rfl, rfl⟩), atR⟩
    intro p hp
    rcases hp with hp | hp
    · rcases ch_at h1 hp with q | q | ⟨o, q, n1, n2, t⟩
      · have : L = p := by simpa using q
        subst this
        exact cL
      · rw [e1] at q
        cases q
        exact cR
      · exact ⟨o, q, .inl n1, .inl n2, t⟩
    · rcases ch_at h2 (upm hp) with q | q | ⟨o, q, n1, n2, t⟩
      · have q : neg R = neg p := by simpa using q
        have : R = p := by rw [← neg_neg R, q, neg_neg]
        subst this
        exact cR
      · rw [e2'] at q
        have q : neg L = neg p := by simpa using q
        have : L = p := by rw [← neg_neg L, q, neg_neg]
        subst this
        exact cL
      · have m1 := nx_neg n1
        have m2 := nx_neg n2
        rw [neg_map, neg_neg] at m1 m2
        refine ⟨neg o, neg q, .inr m1, .inr m2, ?_⟩
        have e : crs (sub p (neg o)) (sub (neg q) p) = crs (sub (neg p) o) (sub q (neg p)) := by unfold crs sub neg; simp only; grind
        rw [e]
        exact t
  -- the list of corners
  have dl1 : (L :: b :: r).dropLast ++ [R] = L :: b :: r := drop_last e1
  have dl2 : (R :: b' :: r').dropLast ++ [L] = R :: b' :: r' := drop_last e2
  obtain ⟨t1, ht1⟩ : ∃ t1, (L :: b :: r).dropLast = L :: t1 := ⟨_, rfl⟩
  obtain ⟨t2, ht2⟩ : ∃ t2, (R :: b' :: r').dropLast = R :: t2 := ⟨_, rfl⟩
  have closed : (L :: (t1 ++ R :: t2)) ++ [L] = (L :: t1) ++ (R :: b' :: r') := by
    rw [← dl2, ht2]
    simp
  have clN : ∀ x y, Nx (L :: b :: r) x y ∨ Nx (R :: b' :: r') x y ↔ Nx ((L :: (t1 ++ R :: t2)) ++ [L]) x y := fun x y => by
    rw [closed]
    constructor
    · rintro (n | n)
      · rw [← dl1, ht1] at n
        have q := nx_left (s := b' :: r') n
        rw [List.append_assoc] at q
        exact q
      · exact nx_right n
    · intro n
      rcases nx_cut n with q | q
      · left
        rw [← dl1, ht1]
        exact q
      · exact .inr q
  have ecs : (L :: b :: r).dropLast ++ (R :: b' :: r').dropLast = L :: (t1 ++ R :: t2) := by rw [ht1, ht2]; rfl
  have mcs : ∀ x ∈ L :: (t1 ++ R :: t2), x ∈ L :: b :: r ∨ x ∈ R :: b' :: r' := fun x hx => by
    rw [← ecs] at hx
    rcases List.mem_append.mp hx with q | q
    · left
      rw [← dl1]
      exact List.mem_append_left _ q
    · right
      rw [← dl2]
      exact List.mem_append_left _ q
  have mcs' : ∀ x, x ∈ L :: b :: r ∨ x ∈ R :: b' :: r' → x ∈ L :: (t1 ++ R :: t2) := fun x hx => by
    rcases hx with q | q
    · rw [← dl1, ht1] at q
      rcases List.mem_append.mp q with k | k
      · rcases List.mem_cons.mp k with rfl | k
        · exact List.mem_cons_self
        · exact List.mem_cons_of_mem _ (List.mem_append_left _ k)
      · rw [List.mem_singleton.mp k]
        simp
    · rw [← dl2, ht2] at q
      rcases List.mem_append.mp q with k | k
      · exact List.mem_cons_of_mem _ (List.mem_append_right _ k)
      · rw [List.mem_singleton.mp k]
        simp
  rw [ecs]
  have len : (L :: (t1 ++ R :: t2)).length = r.length + r'.length + 2 := by
    rw [← ecs]
    simp
    omega
  have leftE : ∀ c d, (Nx (L :: b :: r) c d ∨ Nx (R :: b' :: r') c d) → ∀ x ∈ L :: (t1 ++ R :: t2), 0 ≤ crs (sub d c) (sub x c) := fun c d n x hx => by
    rcases n with n | n
    · exact left1 c d n x (mcs x hx)
    · exact left2 c d n x (mcs x hx)
  have memE : ∀ c d, (Nx (L :: b :: r) c d ∨ Nx (R :: b' :: r') c d) → c ∈ L :: (t1 ++ R :: t2) ∧ d ∈ L :: (t1 ++ R :: t2) := fun c d n => by
    rcases n with n | n
    · exact ⟨mcs' c (.inl (nx_mem n).1), mcs' d (.inl (nx_mem n).2)⟩
    · exact ⟨mcs' c (.inr (nx_mem n).1), mcs' d (.inr (nx_mem n).2)⟩
  refine { lo := ?_, hi := by rw [len]; omega, small := fun x hx => hs x (mcs x hx), steps := ?_, cone := ?_, nc := ?_ }
  · rw [len]
    rcases hr with q | q
    · have := List.length_pos_iff.mpr q
      omega
    · have := List.length_pos_iff.mpr q
      omega
  · refine steps_of fun x y n => ?_
    rcases (clN x y).mpr n with q | q
    · intro e
      have := nx_hp h1 q
      rw [e, sub_self] at this
      rcases this with z | ⟨_, z⟩ <;> exact absurd z (by decide)
    · intro e
      have := nx_hp h2 (nx_neg q)
      rw [e, sub_self] at this
      rcases this with z | ⟨_, z⟩ <;> exact absurd z (by decide)
  · refine cone_of (by simp) fun p hp => ?_
    obtain ⟨o, q, n1, n2, t⟩ := corner p (mcs p hp)
    exact ⟨o, (memE o p n1).1, q, (memE p q n2).2, side_mem ((clN o p).mp n1), side_mem ((clN p q).mp n2), leftE o p n1, leftE p q n2, t⟩
  · obtain ⟨o, q, n1, n2, t⟩ := corner L (.inl List.mem_cons_self)
    refine ⟨o, (memE o L n1).1, L, List.mem_cons_self, q, (memE L q n2).2, ?_⟩
    rw [sub_add o L q, crs_self]
    omega
end K23
/-! the law's shapes are good -/
namespace K23
def lexLe' (x y : P2) : Prop := x.1 < y.1 ∨ x.1 = y.1 ∧ x.2 ≤ y.2
theorem goodDef : Good [(-1, 0), (2, 0), (0, 2)] := by
  refine twoChains (L := (-1, 0)) (b := (2, 0)) (R := (2, 0)) (b' := (0, 2)) (r := []) (r' := [(-1, 0)]) (.inl (by decide)) rfl ⟨.inl (by decide), by decide, .inl (by decide)⟩ rfl (.inr (by simp)) (fun x hx => ?_) (by decide)
  have hx : x = (-1, 0) ∨ x = (2, 0) ∨ x = (0, 2) := by
    simp at hx
    rcases hx with (h | h) | h | h | h <;> simp [h]
  rcases hx with rfl | rfl | rfl <;> (unfold BW B; decide)
theorem BW_le {x : P2} (h1 : -2000000 ≤ x.1 ∧ x.1 ≤ 2000000) (h2 : -2000000 ≤ x.2 ∧ x.2 ≤ 2000000) : BW 21 x := ⟨B.le (by omega) (by omega), B.le (by omega) (by omega)⟩
theorem goodBox {x y w h : Int} (hx : -1000000 ≤ x ∧ x ≤ 0) (hy : -1000000 ≤ y ∧ y ≤ 0) (hw : 1 ≤ w ∧ w ≤ 1000000) (hh : 1 ≤ h ∧ h ≤ 1000000) : Good [(x, y), (x + w, y), (x + w, y + h), (x, y + h)] := by
  have m := Int.mul_pos (show 0 < w by omega) (show 0 < h by omega)
  refine twoChains (L := (x, y)) (b := (x + w, y)) (R := (x + w, y + h)) (b' := (x, y + h)) (r := [(x + w, y + h)]) (r' := [(x, y)]) ⟨.inl ?_, ?_, .inr ⟨?_, ?_⟩⟩ rfl ⟨.inl ?_, ?_, .inr ⟨?_, ?_⟩⟩ rfl (.inr (by simp)) (fun p hp => ?_) (by simp)
  · show 0 < x + w - x; omega
  · have : crs (sub (x + w, y) (x, y)) (sub (x + w, y + h) (x + w, y)) = w * h := by unfold crs sub; simp only; grind
    omega
  · show x + w - (x + w) = 0; omega
  · show 0 < y + h - y; omega
  · show 0 < -x - -(x + w); omega
  · have : crs (sub (neg (x, y + h)) (neg (x + w, y + h))) (sub (neg (x, y)) (neg (x, y + h))) = w * h := by unfold crs sub neg; simp only; grind
    omega
  · show -x - -x = 0; omega
  · show 0 < -y - -(y + h); omega
  · have hp : p = (x, y) ∨ p = (x + w, y) ∨ p = (x + w, y + h) ∨ p = (x, y + h) := by
      simp at hp
      rcases hp with (h | h | h) | h | h | h <;> simp [h]
    rcases hp with rfl | rfl | rfl | rfl <;> exact BW_le (by simp only; omega) (by simp only; omega)
theorem goodEight {k c0 c1 c2 c3 c4 c5 c6 c7 : Int} (hk : 1 ≤ k ∧ k ≤ 500000) (h0 : 1 ≤ c0 ∧ c0 ≤ k) (h1 : 1 ≤ c1 ∧ c1 ≤ k) (h2 : 1 ≤ c2 ∧ c2 ≤ k) (h3 : 1 ≤ c3 ∧ c3 ≤ k) (h4 : 1 ≤ c4 ∧ c4 ≤ k) (h5 : 1 ≤ c5 ∧ c5 ≤ k) (h6 : 1 ≤ c6 ∧ c6 ≤ k) (h7 : 1 ≤ c7 ∧ c7 ≤ k) :
  Good [(0, c0), (c1, 0), (2 * k + 1 - c2, 0), (2 * k + 1, c3), (2 * k + 1, 2 * k + 1 - c4), (2 * k + 1 - c5, 2 * k + 1), (c6, 2 * k + 1), (0, 2 * k + 1 - c7)] := by
  have t : ∀ {p q : P2} {a b : Int}, 0 < a → 0 < b → crs p q = a * b → 0 < crs p q := fun ha hb e => by rw [e]; exact Int.mul_pos ha hb
  refine twoChains (L := (0, c0)) (b := (c1, 0)) (R := (2 * k + 1, 2 * k + 1 - c4)) (b' := (2 * k + 1 - c5, 2 * k + 1)) (r := [(2 * k + 1 - c2, 0), (2 * k + 1, c3), (2 * k + 1, 2 * k + 1 - c4)]) (r' := [(c6, 2 * k + 1), (0, 2 * k + 1 - c7), (0, c0)])
    ⟨.inl ?_, ?_, .inl ?_, ?_, .inl ?_, ?_, .inr ⟨?_, ?_⟩⟩ rfl ⟨.inl ?_, ?_, .inl ?_, ?_, .inl ?_, ?_, .inr ⟨?_, ?_⟩⟩ rfl (.inr (by simp)) (fun p hp => ?_) (by simp)
  · show 0 < c1 - 0; omega
  · refine t (a := c0) (b := 2 * k + 1 - c2 - c1) (by omega) (by omega) ?_
    unfold crs sub; simp only; grind
  · show 0 < 2 * k + 1 - c2 - c1; omega
  · refine t (a := 2 * k + 1 - c2 - c1) (b := c3) (by omega) (by omega) ?_
    unfold crs sub; simp only; grind
  · show 0 < 2 * k + 1 - (2 * k + 1 - c2); omega
  · refine t (a := c2) (b := 2 * k + 1 - c4 - c3) (by omega) (by omega) ?_
    unfold crs sub; simp only; grind
  · show 2 * k + 1 - (2 * k + 1) = 0; omega
  · show 0 < 2 * k + 1 - c4 - c3; omega
  · show 0 < -(2 * k + 1 - c5) - -(2 * k + 1); omega
  · refine t (a := c4) (b := 2 * k + 1 - c5 - c6) (by omega) (by omega) ?_
    unfold crs sub neg; simp only; grind
  · show 0 < -c6 - -(2 * k + 1 - c5); omega
  · refine t (a := 2 * k + 1 - c5 - c6) (b := c7) (by omega) (by omega) ?_
    unfold crs sub neg; simp only; grind
  · show 0 < -0 - -c6; omega
  · refine t (a := c6) (b := 2 * k + 1 - c7 - c0) (by omega) (by omega) ?_
    unfold crs sub neg; simp only; grind
  · show -(0 : Int) - -0 = 0; omega
  · show 0 < -c0 - -(2 * k + 1 - c7); omega
  · have hp : p = (0, c0) ∨ p = (c1, 0) ∨ p = (2 * k + 1 - c2, 0) ∨ p = (2 * k + 1, c3) ∨ p = (2 * k + 1, 2 * k + 1 - c4) ∨ p = (2 * k + 1 - c5, 2 * k + 1) ∨ p = (c6, 2 * k + 1) ∨ p = (0, 2 * k + 1 - c7) := by
      simp only [List.mem_cons, List.not_mem_nil, or_false] at hp
      rcases hp with (h | h | h | h | h) | h | h | h | h | h <;> simp [h]
    rcases hp with rfl | rfl | rfl | rfl | rfl | rfl | rfl | rfl <;> exact BW_le (by simp only; omega) (by simp only; omega)

/-! ### the hull -/
/-- a chain, last first -/
def Rc : List P2 → Prop
  | b :: a :: d :: r => Rp (sub b a) ∧ 0 < crs (sub a d) (sub b a) ∧ Rc (a :: d :: r)
  | [b, a] => Rp (sub b a)
  | _ => True
theorem Rc.tl {b a : P2} {r : List P2} (h : Rc (b :: a :: r)) : Rc (a :: r) := by
  cases r with
  | nil => trivial
  | cons d r => exact h.2.2
theorem Rc.hd {b a : P2} {r : List P2} (h : Rc (b :: a :: r)) : Rp (sub b a) := by
  cases r with
  | nil => exact h
  | cons d r => exact h.1
theorem lex_hp {a b : P2} (h : lexLe' a b) (n : b ≠ a) : Rp (sub b a) := by
  rcases h with q | ⟨q, q2⟩
  · exact .inl (by show 0 < b.1 - a.1; omega)
  · refine .inr ⟨by show b.1 - a.1 = 0; omega, ?_⟩
    show 0 < b.2 - a.2
    have : b.2 ≠ a.2 := fun e => n (Prod.ext q.symm e)
    omega
theorem hp_lex {a b : P2} (h : Rp (sub b a)) : lexLe' a b := by
  rcases h with q | ⟨q, q2⟩
  · have q : 0 < b.1 - a.1 := q
    exact .inl (by omega)
  · have q : b.1 - a.1 = 0 := q
    have q2 : 0 < b.2 - a.2 := q2
    exact .inr ⟨by omega, by omega⟩
theorem lex_trans {a b c : P2} (h : lexLe' a b) (k : lexLe' b c) : lexLe' a c := by unfold lexLe' at *; omega
theorem left_eq (a b c : P2) : leftM a b c = crs (sub b a) (sub c b) := by unfold leftM crs sub; simp only; grind
theorem pop_ok {c : P2} : ∀ {ch : List P2} {t f : P2}, Rc ch → ch.head? = some t → ch.getLast? = some f → lexLe' t c → ∃ t', (popM c ch).head? = some t' ∧ (popM c ch).getLast? = some f ∧ lexLe' t' c ∧ (popM c ch = [t'] ∨ ∃ a r, popM c ch = t' :: a :: r ∧ Rc (t' :: a :: r) ∧ 0 < leftM a t' c)
  | [], t, f, _, e, _, _ => by cases e
  | [b], t, f, _, e, e2, hl => ⟨t, e, e2, hl, .inl (by
      have : b = t := by simpa using e
      rw [this]
      rfl)⟩
  | b :: a :: r, t, f, h, e, e2, hl => by
    have : b = t := by simpa using e
    subst this
    by_cases q : leftM a b c ≤ 0
    · have ep : popM c (b :: a :: r) = popM c (a :: r) := by
        show (if leftM a b c ≤ 0 then popM c (a :: r) else b :: a :: r) = _
        rw [if_pos q]
      rw [ep]
      exact pop_ok h.tl rfl (by simpa using e2) (lex_trans (hp_lex h.hd) hl)
    · have ep : popM c (b :: a :: r) = b :: a :: r := by
        show (if leftM a b c ≤ 0 then popM c (a :: r) else b :: a :: r) = _
        rw [if_neg q]
      rw [ep]
      exact ⟨b, rfl, e2, hl, .inr ⟨a, r, rfl, h, by omega⟩⟩
/-- the state of the walk: first and last point, and a chain (or twice the same) -/
def St' (f t : P2) (ch : List P2) : Prop := ch.head? = some t ∧ ch.getLast? = some f ∧ (Rc ch ∨ ch = [f, f])
def stp (ch : List P2) (c : P2) : List P2 := c :: popM c ch
theorem stp_ok {f t c : P2} {ch : List P2} (h : St' f t ch) (hl : lexLe' t c) : St' f c (stp ch c) := by
  obtain ⟨h1, h2, h3⟩ := h
  have one : ∀ b, b = f → popM c ch = [b] → lexLe' b c → St' f c (stp ch c) := fun b eb ep hb => by
    unfold stp
    rw [ep, eb]
    refine ⟨rfl, rfl, ?_⟩
    by_cases q : c = f
    · right; rw [q]
    · left
      exact lex_hp (by rw [← eb]; exact hb) q
  rcases h3 with h3 | rfl
  · obtain ⟨t', p1, p2, p3, p4⟩ := pop_ok h3 h1 h2 hl
    rcases p4 with p4 | ⟨a, r, p4, p5, p6⟩
    · refine one t' ?_ p4 p3
      rw [p4] at p2
      simpa using p2
    · unfold stp
      rw [p4] at p2 ⊢
      refine ⟨rfl, by simpa using p2, .inl ⟨?_, ?_, p5⟩⟩
      · refine lex_hp p3 fun e => ?_
        rw [left_eq, e, sub_self, crs_zero] at p6
        omega
      · rw [← left_eq]
        exact p6
  · have ep : popM c [f, f] = [f] := by
      show (if leftM f f c ≤ 0 then popM c [f] else [f, f]) = _
      rw [left_eq, sub_self, zero_crs, if_pos (Int.le_refl _)]
      rfl
    have : f = t := by simpa using h1
    exact one f rfl ep (by rw [this]; exact hl)
theorem fold_ok : ∀ {todo : List P2} {f t : P2} {ch : List P2}, St' f t ch → (t :: todo).Pairwise lexLe' → ∃ z, (t :: todo).getLast? = some z ∧ St' f z (todo.foldl stp ch)
  | [], f, t, ch, h, _ => ⟨t, rfl, h⟩
  | c :: todo, f, t, ch, h, hs => by
    have hs' := List.pairwise_cons.mp hs
    obtain ⟨z, e, q⟩ := fold_ok (stp_ok h (hs'.1 c List.mem_cons_self)) hs'.2
    exact ⟨z, by simpa using e, q⟩
theorem fold_len : ∀ (todo : List P2) (ch : List P2), (todo.foldl stp ch).length ≤ ch.length + todo.length
  | [], ch => by simp
  | c :: todo, ch => by
    have q := fold_len todo (stp ch c)
    have p : ∀ ch : List P2, (popM c ch).length ≤ ch.length := fun ch => by
      induction ch with
      | nil => simp [popM]
      | cons b r ih =>
        cases r with
        | nil => simp [popM]
        | cons a r =>
          show (if leftM a b c ≤ 0 then popM c (a :: r) else b :: a :: r).length ≤ _
          split
          · simp at ih ⊢; omega
          · exact Nat.le_refl _
    have := p ch
    unfold stp at q
    simp at q ⊢
    unfold stp
    omega
theorem fold_mem : ∀ (todo : List P2) (ch : List P2) (x : P2), x ∈ todo.foldl stp ch → x ∈ ch ∨ x ∈ todo
  | [], ch, x, h => .inl h
  | c :: todo, ch, x, h => by
    have p : ∀ ch : List P2, ∀ y ∈ popM c ch, y ∈ ch := fun ch => by
      induction ch with
      | nil => simp [popM]
      | cons b r ih =>
        cases r with
        | nil => simp [popM]
        | cons a r =>
          intro y hy
          have hy : y ∈ (if leftM a b c ≤ 0 then popM c (a :: r) else b :: a :: r) := hy
          split at hy
          · exact List.mem_cons_of_mem _ (ih y hy)
          · exact hy
    rcases fold_mem todo (stp ch c) x h with q | q
    · rcases List.mem_cons.mp q with q | q
      · right; rw [q]; simp
      · exact .inl (p ch x q)
    · exact .inr (List.mem_cons_of_mem _ q)
theorem fold_grow : ∀ (todo : List P2) (ch : List P2), ch ≠ [] → 2 ≤ ch.length ∨ todo ≠ [] → 2 ≤ (todo.foldl stp ch).length
  | [], ch, _, h => by
    rcases h with h | h
    · exact h
    · exact absurd rfl h
  | c :: todo, ch, hne, _ => by
    have p : ∀ ch : List P2, ch ≠ [] → popM c ch ≠ [] := fun ch => by
      induction ch with
      | nil => intro h; exact absurd rfl h
      | cons b r ih =>
        cases r with
        | nil => intro _; simp [popM]
        | cons a r =>
          intro _
          show (if leftM a b c ≤ 0 then popM c (a :: r) else b :: a :: r) ≠ []
          split
          · exact ih (by simp)
          · simp
    refine fold_grow todo (stp ch c) (by simp [stp]) (.inl ?_)
    have := List.length_pos_iff.mpr (p ch hne)
    simp [stp]
    omega
theorem half_def (ps : List P2) : halfM ps = (ps.foldl stp []).tail.reverse := rfl
theorem half_len (ps : List P2) : (halfM ps).length ≤ ps.length := by
  rw [half_def]
  have := fold_len ps []
  simp at this ⊢
  omega
theorem pop_neg (c : P2) : ∀ ch : List P2, popM (neg c) (ch.map neg) = (popM c ch).map neg
  | [] => rfl
  | [b] => rfl
  | b :: a :: r => by
    show (if leftM (neg a) (neg b) (neg c) ≤ 0 then popM (neg c) ((a :: r).map neg) else (b :: a :: r).map neg) = (if leftM a b c ≤ 0 then popM c (a :: r) else b :: a :: r).map neg
    have e : leftM (neg a) (neg b) (neg c) = leftM a b c := by rw [left_eq, left_eq, crs_neg_sub]
    rw [e, pop_neg c (a :: r)]
    split <;> rfl
theorem fold_neg : ∀ (todo ch : List P2), (todo.map neg).foldl stp (ch.map neg) = (todo.foldl stp ch).map neg
  | [], ch => rfl
  | c :: todo, ch => by
    show (todo.map neg).foldl stp (stp (ch.map neg) (neg c)) = _
    have e : stp (ch.map neg) (neg c) = (stp ch c).map neg := by
      unfold stp
      rw [pop_neg]
      rfl
    rw [e]
    exact fold_neg todo (stp ch c)
theorem ch_snoc : ∀ {l : List P2} {a b c : P2}, Ch (l ++ [a, b]) → 0 < crs (sub b a) (sub c b) → Rp (sub c b) → Ch (l ++ [a, b, c])
  | [], a, b, c, h, t, p => ⟨h, t, p⟩
  | [x], a, b, c, h, t, p => ⟨h.1, h.2.1, ch_snoc (l := []) h.2.2 t p⟩
  | [x, y], a, b, c, h, t, p => ⟨h.1, h.2.1, ch_snoc (l := [y]) h.2.2 t p⟩
  | x :: y :: z :: l, a, b, c, h, t, p => ⟨h.1, h.2.1, ch_snoc (l := y :: z :: l) h.2.2 t p⟩
theorem rc_ch : ∀ {ch : List P2}, Rc ch → Ch ch.reverse
  | [], _ => trivial
  | [_], _ => trivial
  | [b, a], h => h
  | b :: a :: d :: r, h => by
    have ih := rc_ch h.2.2
    have e1 : (a :: d :: r).reverse = r.reverse ++ [d, a] := by simp
    have e2 : (b :: a :: d :: r).reverse = r.reverse ++ [d, a, b] := by simp
    rw [e1] at ih
    rw [e2]
    exact ch_snoc ih h.2.1 h.1
theorem ch_ends : ∀ {r : List P2} {a b z : P2}, Ch (a :: b :: r) → (a :: b :: r).getLast? = some z → Rp (sub z a)
  | [], a, b, z, h, e => by
    have : b = z := by simpa using e
    rw [← this]
    exact h
  | c :: r, a, b, z, h, e => by
    have q := ch_ends h.2.2 (by simpa using e)
    have := (h.hd).add q
    have e2 : ((sub b a).1 + (sub z b).1, (sub b a).2 + (sub z b).2) = sub z a := by unfold sub; simp only; exact Prod.ext (by simp only; omega) (by simp only; omega)
    rw [e2] at this
    exact this
theorem tail_rev (l : List P2) : l.tail.reverse = l.reverse.dropLast := by
  cases l with
  | nil => rfl
  | cons a l => simp
theorem not_hp_self (a : P2) : ¬ Rp (sub a a) := by
  rw [sub_self]
  intro h
  rcases h with z | ⟨_, z⟩ <;> exact absurd z (by decide)
theorem goodHull {ps : List P2} (hs : ps.Pairwise lexLe') (hl : ps.length ≤ 20) (hb : ∀ p ∈ ps, BW 21 p) (h3 : 3 ≤ (halfM ps ++ halfM ps.reverse).length) : Good (halfM ps ++ halfM ps.reverse) := by
  -- a walk of a sorted list
  have run : ∀ qs : List P2, qs.Pairwise lexLe' → 2 ≤ qs.length → ∃ f z, qs.head? = some f ∧ qs.getLast? = some z ∧ St' f z (qs.foldl stp []) ∧ 2 ≤ (qs.foldl stp []).length := fun qs hq h2 => by
    cases qs with
    | nil => simp at h2
    | cons f rest =>
      have st : St' f f [f] := ⟨rfl, rfl, .inl trivial⟩
      obtain ⟨z, e, q⟩ := fold_ok st hq
      refine ⟨f, z, rfl, e, q, fold_grow rest [f] (by simp) (.inr fun e => ?_)⟩
      rw [e] at h2
      simp at h2
  have two : 2 ≤ ps.length := by
    by_cases q : 2 ≤ ps.length
    · exact q
    · exfalso
      match ps, q with
      | [], _ => simp [halfM] at h3
      | [p], _ => simp [halfM, popM] at h3
      | _ :: _ :: _, q => simp at q
  have hs2 : ((ps.reverse).map neg).Pairwise lexLe' := by
    rw [List.pairwise_map, List.pairwise_reverse]
    refine hs.imp fun {a b} h => ?_
    show lexLe' (neg b) (neg a)
    unfold lexLe' neg at *
    simp only
    omega
  obtain ⟨f, z, f1, z1, s1, n1⟩ := run ps hs two
  obtain ⟨f', z', f2, z2, s2, n2⟩ := run _ hs2 (by simpa using two)
  have ec : ((ps.reverse).map neg).foldl stp [] = ((ps.reverse).foldl stp []).map neg := fold_neg ps.reverse []
  rw [ec] at s2 n2
  have ef' : f' = neg z := by
    rw [List.head?_map, List.head?_reverse, z1] at f2
    exact (Option.some.inj f2).symm
  have ez' : z' = neg f := by
    rw [List.getLast?_map, List.getLast?_reverse, f1] at z2
    exact (Option.some.inj z2).symm
  rw [half_def, half_def, tail_rev, tail_rev] at h3 ⊢
  have len1 := fold_len ps []
  have len2 := fold_len ps.reverse []
  have mem1 := fold_mem ps []
  have mem2 := fold_mem ps.reverse []
  generalize ps.foldl stp [] = c1 at s1 n1 h3 len1 mem1 ⊢
  generalize ps.reverse.foldl stp [] = c2 at s2 n2 h3 len2 mem2 ⊢
  obtain ⟨a1, a2, a3⟩ := s1
  obtain ⟨b1, b2, b3⟩ := s2
  -- the two chains, first first
  have same : (c1 = [f, f] ∨ c2.map neg = [f', f']) → f = z → c1.length = 2 → c2.length = 2 → False := fun _ _ l1 l2 => by
    rw [List.length_append, List.length_dropLast, List.length_dropLast, List.length_reverse, List.length_reverse, l1, l2] at h3
    omega
  have lo : ∃ L b r, c1.reverse = L :: b :: r := by
    match h : c1.reverse with
    | [] => have := congrArg List.length h; simp at this; rw [this] at n1; simp at n1
    | [x] => have := congrArg List.length h; simp at this; omega
    | x :: y :: r => exact ⟨x, y, r, rfl⟩
  have up : ∃ R b r, c2.reverse = R :: b :: r := by
    simp at n2
    match h : c2.reverse with
    | [] => have := congrArg List.length h; simp at this; rw [this] at n2; simp at n2
    | [x] => have := congrArg List.length h; simp at this; omega
    | x :: y :: r => exact ⟨x, y, r, rfl⟩
  obtain ⟨L, b, r, eL⟩ := lo
  obtain ⟨R, b', r', eR⟩ := up
  have hL : L = f := by
    have : c1.reverse.head? = some f := by rw [List.head?_reverse]; exact a2
    rw [eL] at this
    simpa using this
  have hz : (L :: b :: r).getLast? = some z := by rw [← eL, List.getLast?_reverse]; exact a1
  have hR : R = z := by
    have : (c2.map neg).reverse.head? = some f' := by rw [List.head?_reverse]; exact b2
    rw [← List.map_reverse, eR, ef'] at this
    have q : neg R = neg z := by simpa using this
    rw [← neg_neg R, q, neg_neg]
  have hf : (R :: b' :: r').getLast? = some f := by
    have : (c2.map neg).reverse.getLast? = some z' := by rw [List.getLast?_reverse]; exact b1
    rw [← List.map_reverse, eR, ez', List.getLast?_map] at this
    cases e : (R :: b' :: r').getLast? with
    | none => rw [e] at this; cases this
    | some y =>
      rw [e] at this
      have q : neg y = neg f := by simpa using this
      rw [← neg_neg y, q, neg_neg]
  have rl1 : c1.length = r.length + 2 := by
    have := congrArg List.length eL
    simpa using this
  have rl2 : c2.length = r'.length + 2 := by
    have := congrArg List.length eR
    simpa using this
  subst hL
  subst hR
  have ch1 : Rc c1 → Ch (L :: b :: r) := fun h => by rw [← eL]; exact rc_ch h
  have ch2 : Rc (c2.map neg) → Ch ((R :: b' :: r').map neg) := fun h => by rw [← eR, List.map_reverse]; exact rc_ch h
  have hz2 : ((R :: b' :: r').map neg).getLast? = some (neg L) := by rw [List.getLast?_map, hf]; rfl
  rcases a3 with a3 | a3
  · rcases b3 with b3 | b3
    · rw [eL, eR]
      refine twoChains (ch1 a3) hz (ch2 b3) hf ?_ (fun x hx => ?_) ?_
      · rw [List.length_append, List.length_dropLast, List.length_dropLast, List.length_reverse, List.length_reverse, rl1, rl2] at h3
        by_cases q : r = []
        · right
          intro q2
          rw [q, q2] at h3
          simp at h3
        · exact .inl q
      · rcases hx with hx | hx
        · rw [← eL] at hx
          rcases mem1 x (by simpa using hx) with q | q
          · cases q
          · exact hb x q
        · rw [← eR] at hx
          rcases mem2 x (by simpa using hx) with q | q
          · cases q
          · exact hb x (by simpa using q)
      · simp at len1 len2
        omega
    · exfalso
      have e : f' = z' := by rw [b3] at b1; simpa using b1
      rw [ef', ez'] at e
      have e : R = L := by rw [← neg_neg R, e, neg_neg]
      have := ch_ends (ch1 a3) hz
      rw [e] at this
      exact not_hp_self L this
  · have e : L = R := by rw [a3] at a1; simpa using a1
    exfalso
    rcases b3 with b3 | b3
    · have := ch_ends (r := r'.map neg) (a := neg R) (b := neg b') (ch2 b3) hz2
      rw [e] at this
      exact not_hp_self _ this
    · refine same (.inl a3) e (by rw [a3]; rfl) ?_
      have := congrArg List.length b3
      simpa using this
end K23
/-! what each def promises -/
namespace K23
open PySem PySem.Spec PyProof.Rows L2
/-! ### values as data -/
abbrev dQ (q : Rat) : D := .tup [.int q.num, .int (q.den : Int)]
abbrev dS (z : Q2) : D := .tup [dQ z.1, dQ z.2]
abbrev dFr (x : P2 × P2) : D := .tup [dPr x.1, dPr x.2]
abbrev dCs (cs : List P2) : D := .tup (cs.map dPr)
structure Bd where
  o : Bo
  name : Str
  mass : Int
  rail : D
abbrev dB (b : Bd) : D := .tup [.str b.name, dCs b.o.cs, .int b.mass, b.rail, dS b.o.place, dS b.o.speed]
def dPap : Pap → D
  | .clear w => .tup [.str "clear", dPr w]
  | .meets t w => .tup [.str "meets", dQ t, dPr w]
abbrev dRow (x : P2 × Rat × Rat) : D := .tup [dPr x.1, dQ x.2.1, dQ x.2.2]
/-! ### the shares -/
def sp_is_whole : DSp := fun xs m R => (∃ i, xs = [.int i]) ∧ R (.bl true) m
def sp_divisor : DSp := fun xs m R => ∃ i j, xs = [.int i, .int j] ∧ R (.int (Int.gcd i j : Int)) m
def sp_is_share : DSp := fun xs m R => (∃ q, xs = [dQ q]) ∧ R (.bl true) m
def sp_share : DSp := fun xs m R => ∃ t b, xs = [.int t, .int b] ∧ b ≠ 0 ∧ B 8990 b ∧ R (dQ (Rat.divInt t b)) m
def sp_plus : DSp := fun xs m R => ∃ p q a b, xs = [dQ p, dQ q] ∧ Bq a p ∧ Bq b q ∧ a + b ≤ 8990 ∧ R (dQ (p + q)) m
def sp_minus : DSp := fun xs m R => ∃ p q a b, xs = [dQ p, dQ q] ∧ Bq a p ∧ Bq b q ∧ a + b ≤ 8990 ∧ R (dQ (p - q)) m
/-- a share, or the module's own nought -/
def isQ (d : D) (q : Rat) : Prop := d = dQ q ∨ d = .ktup [.int 0, .int 1] ∧ q = 0
def sp_times : DSp := fun xs m R => ∃ p q a b d, xs = [dQ p, d] ∧ isQ d q ∧ Bq a p ∧ Bq b q ∧ a + b ≤ 8990 ∧ R (dQ (p * q)) m
def sp_over : DSp := fun xs m R => ∃ p q a b, xs = [dQ p, dQ q] ∧ q ≠ 0 ∧ Bq a p ∧ Bq b q ∧ a + b ≤ 8990 ∧ R (dQ (p / q)) m
def sp_order : DSp := fun xs m R => ∃ p q a b, xs = [dQ p, dQ q] ∧ Bq a p ∧ Bq b q ∧ a + b ≤ 100000 ∧ ∀ k : Int, (k < 0 ↔ p < q) → (0 < k ↔ q < p) → R (.int k) m
/-! ### ways and spots -/
def sp_is_way : DSp := fun xs m R => ∃ w, xs = [dPr w] ∧ R (.bl (decide (Int.gcd w.1 w.2 = 1))) m
def sp_way_of : DSp := fun xs m R => ∃ p q, xs = [.int p, .int q] ∧ (p ≠ 0 ∨ q ≠ 0) ∧ B 8990 p ∧ B 8990 q ∧ R (dPr (wayM p q)) m
def sp_along : DSp := fun xs m R => ∃ w z k n, xs = [dPr w, dS z] ∧ BW k w ∧ Bs n z ∧ 2 * n ≤ 8990 ∧ k ≤ 10000 ∧ R (dQ (dq w z)) m
def sp_spot_minus : DSp := fun xs m R => ∃ x y a b, xs = [dS x, dS y] ∧ Bs a x ∧ Bs b y ∧ a + b ≤ 8990 ∧ R (dS (subQ x y)) m
/-! ### shapes and gaps -/
def sp_sides : DSp := fun xs m R => ∃ cs, xs = [dCs cs] ∧ Good cs ∧ R (.tup ((sidesM cs).map dPr)) m
def sp_reach : DSp := fun xs m R => ∃ cs w k, xs = [dCs cs, dPr w] ∧ Good cs ∧ BW k w ∧ k ≤ 10000 ∧ R (.int (reachM cs w)) m
def sp_turned_way : DSp := fun xs m R => ∃ w, xs = [dPr w] ∧ R (dPr (neg w)) m
def sp_pair_ways : DSp := fun xs m R => ∃ a b : Bd, xs = [dB a, dB b] ∧ PairOk a.o b.o ∧ ∀ ws : List P2, (∀ w, w ∈ ws ↔ w ∈ PW a.o b.o) → ws.length ≤ 80 → R (.tup (ws.map dPr)) m
def sp_rate : DSp := fun xs m R => ∃ (a b : Bd) (w : P2) (k : Nat), xs = [dB a, dB b, dPr w] ∧ PairOk a.o b.o ∧ BW k w ∧ k ≤ 2100 ∧ R (dQ (rateT a.o b.o w)) m
def sp_gap : DSp := fun xs m R => ∃ (a b : Bd) (w : P2) (t : Rat) (k n : Nat) (d : D), xs = [dB a, dB b, dPr w, d] ∧ isQ d t ∧ PairOk a.o b.o ∧ BW k w ∧ Bq n t ∧ 3 * k + 2800 + n ≤ 8990 ∧ R (dQ (gapT a.o b.o w t)) m
def sp_gap3 : DSp := fun xs m R => ∃ (a b : Bd) (w : P2) (k : Nat), xs = [dB a, dB b, dPr w] ∧ PairOk a.o b.o ∧ BW k w ∧ k ≤ 2000 ∧ R (dQ (gapT a.o b.o w 0)) m
/-! ### times -/
def sp_names_of : DSp := fun _ _ _ => False
def sp_upright_ways : DSp := fun xs m R => ∃ a b : Bd, xs = [dB a, dB b] ∧ PairOk a.o b.o ∧ ∀ us : List P2, (fast a.o b.o = (0, 0) ∧ us = [] ∨ fast a.o b.o ≠ (0, 0) ∧ ∃ u, us = [u, neg u] ∧ u ≠ (0, 0) ∧ Int.gcd u.1 u.2 = 1 ∧ dq u (fast a.o b.o) = 0 ∧ BW 1850 u) → R (.lst (us.map dPr)) m
/-- a row's gap at a time -/
def rowT (x : P2 × Rat × Rat) (t : Rat) : Rat := x.2.1 + x.2.2 * t
def MetR (rs : List (P2 × Rat × Rat)) (t : Rat) : Prop := ∀ x ∈ rs, rowT x t < 0 ∨ rowT x t = 0 ∧ x.2.2 < 0
def sp_entered : DSp := fun xs m R => ∃ rs : List (P2 × Rat × Rat), xs = [.lst (rs.map dRow)] ∧ (∀ x ∈ rs, Bq 1100 x.2.1 ∧ Bq 1900 x.2.2) ∧ ((∃ x ∈ rs, x.2.2 < 0) → ∃ x ∈ rs, 0 < x.2.2) ∧
  ((∀ t w, Bq 3000 t → 0 ≤ t → (∃ x ∈ rs, x.1 = w ∧ x.2.2 < 0 ∧ rowT x t = 0) → MetR rs t → R (.tup [dQ t, dPr w]) m) ∧
   ((∀ t, 0 ≤ t → (∃ x ∈ rs, x.2.2 < 0 ∧ rowT x t = 0) → ¬ MetR rs t) → R .non m))
def sp_first : DSp := fun xs m R => ∃ (a b : Bd) (u : Rat), xs = [dB a, dB b, dQ u] ∧ PairOk a.o b.o ∧ Bq 5600 u ∧ 0 ≤ u ∧ ¬ OverNow a.o b.o ∧ ∀ p, Held a.o b.o u p → PapOk p → R (dPap p) m
def sp_meets_now : DSp := fun xs m R => ∃ (a b : Bd) (t : Rat), xs = [dB a, dB b, dQ t] ∧ PairOk a.o b.o ∧ Bq 5600 t ∧ ∀ k : Bool, (k = true ↔ MetAt a.o b.o t) → R (.bl k) m
def sp_first_held : DSp := fun xs m R => ∃ (a b : Bd) (u : Rat) (p : Pap), xs = [dB a, dB b, dQ u, dPap p] ∧ PairOk a.o b.o ∧ Bq 100 u ∧ PapOk p ∧ ∀ k : Bool, (k = true ↔ Held a.o b.o u p) → R (.bl k) m
/-! ### the law's own -/
/-- a deck function's turn: at most c draws -/
def Dr (m : M) (a : Addr) (c : Nat) (k : M → Prop) : Prop := ∃ d, m.dk = some d ∧ d.a = a ∧ d.n + c ≤ 2 ^ 30 ∧ ∀ n', n' ≤ d.n + c → k ⟨some { d with n := n' }, m.ow⟩
def sp_cellL : DSp := fun xs m R => ∃ (ns : List Int) (k : Int), xs = [.lst (ns.map D.int), .int k] ∧ 0 ≤ k ∧ k ≤ 2 ^ 31 ∧ ∀ r, 0 ≤ r → R (.int r) m
def sp_deckL : DSp := fun xs m R => ∃ ns : List Int, xs = [.lst (ns.map D.int)] ∧ ns.length ≤ 63 ∧ m.dk = none ∧ ∀ d : Dk, d.n = 0 → R (.ref d.a) ⟨some d, m.ow⟩
def sp_takeL : DSp := fun xs m R => ∃ (a : Addr) (many : Int), xs = [.ref a, .int many] ∧ 0 < many ∧ many < 2 ^ 30 ∧ Dr m a 1 fun m' => ∀ r : Int, 0 ≤ r → r < many → R (.int r) m'
def sp_longL : DSp := fun xs m R => ∃ (a : Addr) (many : Nat), xs = [.ref a, .int (many : Int)] ∧ many ≤ 20 ∧ Dr m a 20 fun m' => ∀ r : Int, 0 ≤ r → B (10 * many) r → R (.int r) m'
def sp_gcdL : DSp := fun xs m R => ∃ i j, xs = [.int i, .int j] ∧ R (.int (Int.gcd i j : Int)) m
def sp_shareL : DSp := fun xs m R => ∃ t b, xs = [.int t, .int b] ∧ 0 < b ∧ B 8990 b ∧ R (dQ (Rat.divInt t b)) m
def sp_plusL : DSp := fun xs m R => ∃ x y : P2, xs = [dPr x, dPr y] ∧ BW 100000 x ∧ BW 100000 y ∧ R (dPr (x.1 * y.2 + y.1 * x.2, x.2 * y.2)) m
def sp_timesL : DSp := fun xs m R => ∃ x y : P2, xs = [dPr x, dPr y] ∧ BW 100000 x ∧ BW 100000 y ∧ R (dPr (x.1 * y.1, x.2 * y.2)) m
def sp_spotL : DSp := fun xs m R => ∃ x : P2 × P2, xs = [dFr x] ∧ 0 < x.1.2 ∧ 0 < x.2.2 ∧ B 8990 x.1.2 ∧ B 8990 x.2.2 ∧ R (dS (Rat.divInt x.1.1 x.1.2, Rat.divInt x.2.1 x.2.2)) m
def plusF (x y : P2) : P2 := (x.1 * y.2 + y.1 * x.2, x.2 * y.2)
def timesF (x y : P2) : P2 := (x.1 * y.1, x.2 * y.2)
def sp_spot_plusL : DSp := fun xs m R => ∃ x y : P2 × P2, xs = [dFr x, dFr y] ∧ BW 100000 x.1 ∧ BW 100000 x.2 ∧ BW 100000 y.1 ∧ BW 100000 y.2 ∧ R (dFr (plusF x.1 y.1, plusF x.2 y.2)) m
def sp_spot_timesL : DSp := fun xs m R => ∃ (x : P2 × P2) (y : P2), xs = [dFr x, dPr y] ∧ BW 100000 x.1 ∧ BW 100000 x.2 ∧ BW 100000 y ∧ R (dFr (timesF x.1 y, timesF x.2 y)) m
def sp_leftL : DSp := fun xs m R => ∃ a b c : P2, xs = [dPr a, dPr b, dPr c] ∧ BW 21 a ∧ BW 21 b ∧ BW 21 c ∧ R (.int (leftM a b c)) m
def sp_halfL : DSp := fun xs m R => ∃ ps : List P2, xs = [.lst (ps.map dPr)] ∧ ps ≠ [] ∧ ps.length ≤ 100 ∧ (∀ p ∈ ps, BW 21 p) ∧ R (.lst ((halfM ps).map dPr)) m
def sp_numberL : DSp := fun xs m R => ∃ (a : Addr) (sp : Int), xs = [.ref a, .int sp] ∧ 0 < sp ∧ sp ≤ 1000000 ∧ Dr m a 20 fun m' => ∀ r : Int, -sp ≤ r → r ≤ sp → R (.int r) m'
def sp_eightL : DSp := fun xs m R => ∃ (a : Addr) (k : Int), xs = [.ref a, .int k] ∧ 0 < k ∧ k ≤ 500000 ∧ Dr m a 200 fun m' => ∀ cs, Good cs → R (dCs cs) m'
def sp_shapeL : DSp := fun xs m R => ∃ (a : Addr) (sp : Int), xs = [.ref a, .int sp] ∧ 5 ≤ sp ∧ sp ≤ 1000000 ∧ Dr m a 500 fun m' => ∀ cs, Good cs → R (dCs cs) m'
def sp_wayL : DSp := fun xs m R => ∃ p q, xs = [.int p, .int q] ∧ (p ≠ 0 ∨ q ≠ 0) ∧ B 8990 p ∧ B 8990 q ∧ R (dPr (wayM p q)) m
def sp_waysL : DSp := fun xs m R => ∃ cs, xs = [dCs cs] ∧ Good cs ∧ ∀ p, R (.ref p) ⟨m.dk, some (p, (sidesM cs).map dPr)⟩
def sp_pair_waysL : DSp := fun xs m R => ∃ a b : Bd, xs = [dB a, dB b] ∧ PairOk a.o b.o ∧ ∀ ws : List P2, (∀ w, w ∈ ws ↔ w ∈ PW a.o b.o) → ws.length ≤ 80 → R (.lst (ws.map dPr)) m
def sp_reachL : DSp := fun xs m R => ∃ cs w k, xs = [dCs cs, dPr w] ∧ Good cs ∧ BW k w ∧ k ≤ 10000 ∧ R (.int (reachM cs w)) m
abbrev dGone (g : Int × Int × Int) : D := .tup [.int g.1, .int g.2.1, .int g.2.2]
/-- the other's place less the one's, at a time -/
def goneT (a b : Bo) (t : Rat) : Q2 := ((far a b).1 + (fast a b).1 * t, (far a b).2 + (fast a b).2 * t)
def GoneAt (a b : Bo) (t : Rat) (g : Int × Int × Int) : Prop := 0 < g.2.2 ∧ (g.1 : Rat) = (goneT a b t).1 * (g.2.2 : Rat) ∧ (g.2.1 : Rat) = (goneT a b t).2 * (g.2.2 : Rat) ∧ B 2790 g.1 ∧ B 2790 g.2.1 ∧ B 2770 g.2.2
def sp_betweenL : DSp := fun xs m R => ∃ (a b : Bd) (x : P2) (t : Rat), xs = [dB a, dB b, dPr x] ∧ PairOk a.o b.o ∧ (x = (0, 1) ∧ t = 0 ∨ x = (1, 1) ∧ t = 1) ∧ ∀ g, GoneAt a.o b.o t g → R (dGone g) m
def roomM (a b : Bo) (w : P2) (g : Int × Int × Int) : Int := w.1 * g.1 + w.2 * g.2.1 - shut a b w * g.2.2
def sp_roomL : DSp := fun xs m R => ∃ (a b : Bd) (w : P2) (g : Int × Int × Int), xs = [dB a, dB b, dPr w, dGone g] ∧ PairOk a.o b.o ∧ BW 22 w ∧ B 9000 g.1 ∧ B 9000 g.2.1 ∧ B 9000 g.2.2 ∧ R (.int (roomM a.o b.o w g)) m
def sp_roomsL : DSp := fun xs m R => ∃ (a b : Bd), xs = [dB a, dB b, dPr (0, 1)] ∧ PairOk a.o b.o ∧ ∀ ns : List Int, (∀ n ∈ ns, ∃ w ∈ PW a.o b.o, (n < 0 ↔ gapT a.o b.o w 0 < 0)) → (∀ w ∈ PW a.o b.o, ∃ n ∈ ns, (n < 0 ↔ gapT a.o b.o w 0 < 0)) → R (.lst (ns.map D.int)) m
def sp_overL : DSp := fun xs m R => ∃ (a b : Bd), xs = [dB a, dB b, dPr (0, 1)] ∧ PairOk a.o b.o ∧ ∀ k : Bool, (k = true ↔ OverNow a.o b.o) → R (.bl k) m
def sp_namesL : DSp := fun xs m R => ∃ a : Addr, xs = [.ref a] ∧ Dr m a 50 fun m' => ∀ u v : Str, R (.lst [.str u, .str v]) m'
def sp_drawnL : DSp := fun xs m R => ∃ (a : Addr) (z : Int), xs = [.ref a, .int z] ∧ 0 ≤ z ∧ z ≤ 2 ∧ Dr m a 100 fun m' => ∀ q, Bq 200 q → R (dQ q) m'
def sp_rowL : DSp := fun xs m R => ∃ (a : Addr) (nm : Str) (sp z : Int) (fr : Bool), xs = [.ref a, .str nm, .int sp, .int z, .bl fr] ∧ 5 ≤ sp ∧ sp ≤ 1000000 ∧ 0 ≤ z ∧ z ≤ 2 ∧ Dr m a 2000 fun m' => ∀ b : Bd, Good b.o.cs → Bs 200 b.o.place → Bs 210 b.o.speed → R (dB b) m'
def sp_pairL : DSp := fun xs m R => ∃ a : Addr, xs = [.ref a] ∧ Dr m a 10000 fun m' => ∀ (x y : Bd) (wh : Rat), PairOk x.o y.o → 0 < wh → Bq 3 wh → R (.tup [dB x, dB y, dQ wh]) m'
def sp_untilL : DSp := fun xs m R => ∃ (a : Addr) (wh : Rat), xs = [.ref a, dQ wh] ∧ 0 < wh ∧ Bq 3 wh ∧ Dr m a 10 fun m' => ∀ u, 0 ≤ u → Bq 20 u → R (dQ u) m'
def sp_crossingsL : DSp := fun xs m R => ∃ a b : Bd, xs = [dB a, dB b] ∧ PairOk a.o b.o ∧ ∀ l : List (Rat × P2 × Bool), l.length ≤ 80 → (∀ x ∈ l, Bq 5590 x.1 ∧ BW 22 x.2.1) → R (.lst (l.map fun x => .tup [dQ x.1, dPr x.2.1, .bl x.2.2])) m
def sp_uprightL : DSp := fun xs m R => ∃ a b : Bd, xs = [dB a, dB b] ∧ PairOk a.o b.o ∧ ∀ w, BW 1850 w → R (dPr w) m
def sp_turnedL : DSp := fun xs m R => ∃ p, xs = [dPap p] ∧ R (dPap (turnedM p)) m
def sp_papersL : DSp := fun xs m R => ∃ (c : Addr) (a b : Bd), xs = [.ref c, dB a, dB b] ∧ PairOk a.o b.o ∧ Dr m c 1000 fun m' => ∀ ps : List Pap, (∀ p ∈ ps, PapOk p) → ps.length ≤ 1000 → R (.lst (ps.map dPap)) m'
def sp_told_is_rightL : DSp := fun xs m R => ∃ (a b : Bd) (u : Rat) (ts : List Rat), xs = [dB a, dB b, dQ u, .lst (ts.map dQ)] ∧ PairOk a.o b.o ∧ Bq 20 u ∧ 0 ≤ u ∧ ¬ OverNow a.o b.o ∧ (∀ t ∈ ts, ∃ w, Held a.o b.o u (.meets t w)) ∧ ts.length ≤ 2000 ∧ R (.bl true) m
def sp_law : DSp := fun xs m R => ∃ ns : List Int, xs = [.lst (ns.map D.int)] ∧ ns.length ≤ 63 ∧ m.dk = none ∧ ∀ m', R (.bl true) m'
end K23
/-! the printed walks (gen_all.py) -/
namespace K23
open PySem PySem.Spec PyProof.Rows L2
def t_is_whole : DTS := (sRet (dAndV (dIsi "int" (dVar 0)) (dNotV (dIsi "bool" (dVar 0)))))
def t_divisor : DTS := (sSeq (sPar 0 1 (dCons (dCB oAbs (dCons (dVar 0) dNil)) (dCons (dCB oAbs (dCons (dVar 1) dNil)) dNil)))
  (sSeq (sWhile (dTst (dGt (dVar 1) (dC (.int 0)))) (sPar 0 1 (dCons (dVar 1) (dCons (dMod (dVar 0) (dVar 1)) dNil))))
  (sRet (dVar 0))))
def t_is_share : DTS := (sSeq (sIf (dOrT (dNotT (dTst (dIsi "tuple" (dVar 0)))) (dTst (dNe (dCB oLen (dCons (dVar 0) dNil)) (dC (.int 2))))) (sRet (dC (.bl false))) sNext)
  (sSeq (sIf (dOrT (dNotT (dTst (dCall sp_is_whole (dCons (dIxN 0 (dVar 0)) dNil)))) (dOrT (dNotT (dTst (dCall sp_is_whole (dCons (dIxN 1 (dVar 0)) dNil)))) (dTst (dLt (dIxN 1 (dVar 0)) (dC (.int 1)))))) (sRet (dC (.bl false))) sNext)
  (sRet (dEq (dCall sp_divisor (dCons (dIxN 0 (dVar 0)) (dCons (dIxN 1 (dVar 0)) dNil))) (dC (.int 1))))))
def t_share : DTS := (sSeq (sIf (dTst (dEq (dVar 1) (dC (.int 0)))) sNever sNext)
  (sSeq (sSet 2 (dCall sp_divisor (dCons (dVar 0) (dCons (dVar 1) dNil))))
  (sSeq (sIf (dTst (dLt (dVar 1) (dC (.int 0)))) (sSet 2 (dNeg (dVar 2))) sNext)
  (sRet (dTup (dCons (dFdiv (dVar 0) (dVar 2)) (dCons (dFdiv (dVar 1) (dVar 2)) dNil)))))))
def t_plus : DTS := (sRet (dCall sp_share (dCons (dAdd (dMul (dIxN 0 (dVar 0)) (dIxN 1 (dVar 1))) (dMul (dIxN 0 (dVar 1)) (dIxN 1 (dVar 0)))) (dCons (dMul (dIxN 1 (dVar 0)) (dIxN 1 (dVar 1))) dNil))))
def t_minus : DTS := (sRet (dCall sp_share (dCons (dSub (dMul (dIxN 0 (dVar 0)) (dIxN 1 (dVar 1))) (dMul (dIxN 0 (dVar 1)) (dIxN 1 (dVar 0)))) (dCons (dMul (dIxN 1 (dVar 0)) (dIxN 1 (dVar 1))) dNil))))
def t_times : DTS := (sRet (dCall sp_share (dCons (dMul (dIxN 0 (dVar 0)) (dIxN 0 (dVar 1))) (dCons (dMul (dIxN 1 (dVar 0)) (dIxN 1 (dVar 1))) dNil))))
def t_over : DTS := (sSeq (sIf (dTst (dEq (dIxN 0 (dVar 1)) (dC (.int 0)))) sNever sNext)
  (sRet (dCall sp_share (dCons (dMul (dIxN 0 (dVar 0)) (dIxN 1 (dVar 1))) (dCons (dMul (dIxN 1 (dVar 0)) (dIxN 0 (dVar 1))) dNil)))))
def t_order : DTS := (sSeq (sSet 2 (dMul (dIxN 0 (dVar 0)) (dIxN 1 (dVar 1))))
  (sSeq (sSet 3 (dMul (dIxN 0 (dVar 1)) (dIxN 1 (dVar 0))))
  (sSeq (sIf (dTst (dEq (dVar 2) (dVar 3))) (sRet (dC (.int 0))) sNext)
  (sRet (dIfE (dTst (dLt (dVar 2) (dVar 3))) (dNeg (dC (.int 1))) (dC (.int 1)))))))
def t_is_way : DTS := (sSeq (sIf (dOrT (dNotT (dTst (dIsi "tuple" (dVar 0)))) (dOrT (dTst (dNe (dCB oLen (dCons (dVar 0) dNil)) (dC (.int 2)))) (dNotT (dTst (dCB oAll (dCons (dLc (iTupD (dVar 0)) (gdName 1) tYesD (dCall sp_is_whole (dCons (dVar 1) dNil)) [1]) dNil)))))) (sRet (dC (.bl false))) sNext)
  (sRet (dEq (dCall sp_divisor (dCons (dIxN 0 (dVar 0)) (dCons (dIxN 1 (dVar 0)) dNil))) (dC (.int 1)))))
def t_way_of : DTS := (sSeq (sSet 2 (dCall sp_divisor (dCons (dVar 0) (dCons (dVar 1) dNil))))
  (sSeq (sIf (dTst (dEq (dVar 2) (dC (.int 0)))) sNever sNext)
  (sRet (dTup (dCons (dFdiv (dVar 0) (dVar 2)) (dCons (dFdiv (dVar 1) (dVar 2)) dNil))))))
def t_along : DTS := (sSeq (sAsg (dVar 1) (gdTup 2 (gdCons (gdTup 2 (gdCons (gdName 2) (gdCons (gdName 3) gdNil))) (gdCons (gdTup 2 (gdCons (gdName 4) (gdCons (gdName 5) gdNil))) gdNil))))
  (sRet (dCall sp_share (dCons (dAdd (dMul (dMul (dIxN 0 (dVar 0)) (dVar 2)) (dVar 5)) (dMul (dMul (dIxN 1 (dVar 0)) (dVar 4)) (dVar 3))) (dCons (dMul (dVar 3) (dVar 5)) dNil)))))
def t_spot_minus : DTS := (sRet (dCB oTuple (dCons (dLc (iZipD (dVar 0) (dVar 1)) (gdTup 2 (gdCons (gdName 2) (gdCons (gdName 3) gdNil))) tYesD (dCall sp_minus (dCons (dVar 2) (dCons (dVar 3) dNil))) [2, 3]) dNil)))
def t_sides : DTS := (sSeq (sStar 1 2 (dVar 0))
  (sSeq (sOwn 3)
  (sSeq (sFor (iZipD (dVar 0) (dBin oPlus (dVar 2) (dLst (dCons (dVar 1) dNil)))) (gdTup 2 (gdCons (gdTup 2 (gdCons (gdName 4) (gdCons (gdName 5) gdNil))) (gdCons (gdTup 2 (gdCons (gdName 6) (gdCons (gdName 7) gdNil))) gdNil))) (sApp 3 (dCall sp_way_of (dCons (dSub (dVar 7) (dVar 5)) (dCons (dSub (dVar 4) (dVar 6)) dNil)))))
  (sRet (dCB oTuple (dCons (dFrz 3) dNil))))))
def t_reach : DTS := (sRet (dCB oMax (dCons (dLc (iTupD (dVar 0)) (gdTup 2 (gdCons (gdName 2) (gdCons (gdName 3) gdNil))) tYesD (dAdd (dMul (dIxN 0 (dVar 1)) (dVar 2)) (dMul (dIxN 1 (dVar 1)) (dVar 3))) [2, 3]) dNil)))
def t_turned_way : DTS := (sRet (dTup (dCons (dNeg (dIxN 0 (dVar 0))) (dCons (dNeg (dIxN 1 (dVar 0))) dNil))))
def t_rate : DTS := (sRet (dCall sp_along (dCons (dVar 2) (dCons (dCall sp_spot_minus (dCons (dIxN 5 (dVar 1)) (dCons (dIxN 5 (dVar 0)) dNil))) dNil))))
def t_gap : DTS := (sSeq (sSet 4 (dCall sp_along (dCons (dVar 2) (dCons (dCall sp_spot_minus (dCons (dIxN 4 (dVar 1)) (dCons (dIxN 4 (dVar 0)) dNil))) dNil))))
  (sSeq (sSet 5 (dAdd (dCall sp_reach (dCons (dIxN 1 (dVar 0)) (dCons (dVar 2) dNil))) (dCall sp_reach (dCons (dIxN 1 (dVar 1)) (dCons (dCall sp_turned_way (dCons (dVar 2) dNil)) dNil)))))
  (sRet (dCall sp_plus (dCons (dCall sp_minus (dCons (dVar 4) (dCons (dTup (dCons (dVar 5) (dCons (dC (.int 1)) dNil))) dNil))) (dCons (dCall sp_times (dCons (dCall sp_rate (dCons (dVar 0) (dCons (dVar 1) (dCons (dVar 2) dNil)))) (dCons (dVar 3) dNil))) dNil))))))
def t_upright_ways : DTS := (sSeq (sAsg (dCall sp_spot_minus (dCons (dIxN 5 (dVar 1)) (dCons (dIxN 5 (dVar 0)) dNil))) (gdTup 2 (gdCons (gdTup 2 (gdCons (gdName 2) (gdCons (gdName 3) gdNil))) (gdCons (gdTup 2 (gdCons (gdName 4) (gdCons (gdName 5) gdNil))) gdNil))))
  (sSeq (sIf (dAndT (dTst (dEq (dVar 2) (dC (.int 0)))) (dTst (dEq (dVar 4) (dC (.int 0))))) (sRet (dLst dNil)) sNext)
  (sSeq (sAsg (dCall sp_way_of (dCons (dMul (dNeg (dVar 4)) (dVar 3)) (dCons (dMul (dVar 2) (dVar 5)) dNil))) (gdTup 2 (gdCons (gdName 6) (gdCons (gdName 7) gdNil))))
  (sRet (dLst (dCons (dTup (dCons (dVar 6) (dCons (dVar 7) dNil))) (dCons (dTup (dCons (dNeg (dVar 6)) (dCons (dNeg (dVar 7)) dNil))) dNil)))))))
def t_entered : DTS := (sSeq (sSet 1 (dC .non))
  (sSeq (sSet 2 (dC .non))
  (sSeq (sSet 3 (dC .non))
  (sSeq (sFor (iLst (dVar 0)) (gdTup 3 (gdCons (gdName 4) (gdCons (gdName 5) (gdCons (gdName 6) gdNil)))) (sSeq (sIf (dTst (dEq (dIxN 0 (dVar 6)) (dC (.int 0)))) (sSeq (sIf (dTst (dGe (dIxN 0 (dVar 5)) (dC (.int 0)))) (sRet (dC .non)) sNext)
  sCont) sNext)
  (sSeq (sSet 7 (dCall sp_over (dCons (dTup (dCons (dNeg (dIxN 0 (dVar 5))) (dCons (dIxN 1 (dVar 5)) dNil))) (dCons (dVar 6) dNil))))
  (sIf (dTst (dGt (dIxN 0 (dVar 6)) (dC (.int 0)))) (sIf (dOrT (dTst (dBin (oIsN false) (dVar 2) (dC .non))) (dTst (dLt (dCall sp_order (dCons (dVar 7) (dCons (dVar 2) dNil))) (dC (.int 0))))) (sSet 2 (dVar 7)) sNext) (sIf (dOrT (dTst (dBin (oIsN false) (dVar 1) (dC .non))) (dTst (dGt (dCall sp_order (dCons (dVar 7) (dCons (dVar 1) dNil))) (dC (.int 0))))) (sSeq (sSet 1 (dVar 7))
  (sSet 3 (dVar 4))) sNext)))))
  (sSeq (sIf (dOrT (dTst (dBin (oIsN false) (dVar 1) (dC .non))) (dOrT (dTst (dGe (dCall sp_order (dCons (dVar 1) (dCons (dVar 2) dNil))) (dC (.int 0)))) (dTst (dLt (dIxN 0 (dVar 1)) (dC (.int 0)))))) (sRet (dC .non)) sNext)
  (sRet (dTup (dCons (dVar 1) (dCons (dVar 3) dNil)))))))))
def t_first : DTS := (sSeq (sSet 3 (dLc (iTupD (dCall sp_pair_ways (dCons (dVar 0) (dCons (dVar 1) dNil)))) (gdName 5) tYesD (dTup (dCons (dVar 5) (dCons (dCall sp_gap3 (dCons (dVar 0) (dCons (dVar 1) (dCons (dVar 5) dNil)))) (dCons (dCall sp_rate (dCons (dVar 0) (dCons (dVar 1) (dCons (dVar 5) dNil)))) dNil)))) [5]))
  (sSeq (sIf (dTst (dLt (dCB oMax (dCons (dLc (iLst (dVar 3)) (gdTup 3 (gdCons (gdName 5) (gdCons (gdName 6) (gdCons (gdName 7) gdNil)))) tYesD (dIxN 0 (dVar 6)) [5, 6, 7]) dNil)) (dC (.int 0)))) sNever sNext)
  (sSeq (sSet 4 (dCall sp_entered (dCons (dVar 3) dNil)))
  (sSeq (sIf (dAndT (dTst (dBin (oIsN true) (dVar 4) (dC .non))) (dTst (dLt (dCall sp_order (dCons (dIxN 0 (dVar 4)) (dCons (dVar 2) dNil))) (dC (.int 0))))) (sRet (dTup (dCons (dC (.str "meets")) (dCons (dIxN 0 (dVar 4)) (dCons (dIxN 1 (dVar 4)) dNil))))) sNext)
  (sSeq (sFor (iLst (dVar 3)) (gdTup 3 (gdCons (gdName 5) (gdCons (gdName 6) (gdCons (gdName 7) gdNil)))) (sIf (dAndT (dTst (dGe (dIxN 0 (dVar 6)) (dC (.int 0)))) (dTst (dGe (dIxN 0 (dCall sp_plus (dCons (dVar 6) (dCons (dCall sp_times (dCons (dVar 7) (dCons (dVar 2) dNil))) dNil)))) (dC (.int 0))))) (sRet (dTup (dCons (dC (.str "clear")) (dCons (dVar 5) dNil)))) sNext))
  (sSeq (sFor (iLst (dCall sp_upright_ways (dCons (dVar 0) (dCons (dVar 1) dNil)))) (gdName 5) (sIf (dTst (dGe (dIxN 0 (dCall sp_gap3 (dCons (dVar 0) (dCons (dVar 1) (dCons (dVar 5) dNil))))) (dC (.int 0)))) (sRet (dTup (dCons (dC (.str "clear")) (dCons (dVar 5) dNil)))) sNext))
  (sRet (dTup (dCons (dC (.str "clear")) (dCons (dIxN 0 (dIxN 0 (dVar 3))) dNil))))))))))
def t_meets_now : DTS := (sSeq (sFor (iTupD (dCall sp_pair_ways (dCons (dVar 0) (dCons (dVar 1) dNil)))) (gdName 3) (sSeq (sSet 4 (dCall sp_gap (dCons (dVar 0) (dCons (dVar 1) (dCons (dVar 3) (dCons (dVar 2) dNil))))))
  (sIf (dOrT (dTst (dGt (dIxN 0 (dVar 4)) (dC (.int 0)))) (dAndT (dTst (dEq (dIxN 0 (dVar 4)) (dC (.int 0)))) (dTst (dGe (dIxN 0 (dCall sp_rate (dCons (dVar 0) (dCons (dVar 1) (dCons (dVar 3) dNil))))) (dC (.int 0)))))) (sRet (dC (.bl false))) sNext)))
  (sRet (dC (.bl true))))
def t_first_held : DTS := (sSeq (sIf (dOrT (dNotT (dTst (dIsi "tuple" (dVar 3)))) (dTst (dBin oNotIn (dCB oLen (dCons (dVar 3) dNil)) (dTup (dCons (dC (.int 2)) (dCons (dC (.int 3)) dNil)))))) (sRet (dC (.bl false))) sNext)
  (sSeq (sIf (dTst (dEq (dCB oLen (dCons (dVar 3) dNil)) (dC (.int 2)))) (sSeq (sIf (dOrT (dTst (dNe (dIxN 0 (dVar 3)) (dC (.str "clear")))) (dNotT (dTst (dCall sp_is_way (dCons (dIxN 1 (dVar 3)) dNil))))) (sRet (dC (.bl false))) sNext)
  (sRet (dAndV (dGe (dIxN 0 (dCall sp_gap3 (dCons (dVar 0) (dCons (dVar 1) (dCons (dIxN 1 (dVar 3)) dNil))))) (dC (.int 0))) (dGe (dIxN 0 (dCall sp_gap (dCons (dVar 0) (dCons (dVar 1) (dCons (dIxN 1 (dVar 3)) (dCons (dVar 2) dNil)))))) (dC (.int 0)))))) sNext)
  (sSeq (sAsg (dVar 3) (gdTup 3 (gdCons (gdName 4) (gdCons (gdName 5) (gdCons (gdName 6) gdNil)))))
  (sSeq (sIf (dOrT (dTst (dNe (dVar 4) (dC (.str "meets")))) (dOrT (dNotT (dTst (dCall sp_is_share (dCons (dVar 5) dNil)))) (dOrT (dTst (dLt (dIxN 0 (dVar 5)) (dC (.int 0)))) (dTst (dGe (dCall sp_order (dCons (dVar 5) (dCons (dVar 2) dNil))) (dC (.int 0))))))) (sRet (dC (.bl false))) sNext)
  (sSeq (sIf (dOrT (dNotT (dTst (dCall sp_is_way (dCons (dVar 6) dNil)))) (dTst (dBin oNotIn (dVar 6) (dCall sp_pair_ways (dCons (dVar 0) (dCons (dVar 1) dNil)))))) (sRet (dC (.bl false))) sNext)
  (sRet (dAndV (dEq (dIxN 0 (dCall sp_gap (dCons (dVar 0) (dCons (dVar 1) (dCons (dVar 6) (dCons (dVar 5) dNil)))))) (dC (.int 0))) (dAndV (dLt (dIxN 0 (dCall sp_rate (dCons (dVar 0) (dCons (dVar 1) (dCons (dVar 6) dNil))))) (dC (.int 0))) (dCall sp_meets_now (dCons (dVar 0) (dCons (dVar 1) (dCons (dVar 5) dNil))))))))))))
def t_cellL : DTS := (sSeq (sIf (dTst (dEq (dCB oLen (dCons (dVar 0) dNil)) (dC (.int 0)))) (sRet (dAdd (dMul (dC (.int 7)) (dVar 1)) (dC (.int 3)))) sNext)
  (sRet (dCB oAbs (dCons (dBin oIx (dVar 0) (dMod (dVar 1) (dCB oLen (dCons (dVar 0) dNil)))) dNil))))
def t_longL : DTS := (sSeq (sSet 2 (dC (.int 0)))
  (sSeq (sFor (iRng (dVar 1)) (gdName 3) (sSet 2 (dAdd (dMul (dVar 2) (dC (.int 1000))) (dCall sp_takeL (dCons (dVar 0) (dCons (dC (.int 1000)) dNil))))))
  (sRet (dVar 2))))
def t_gcdL : DTS := (sSeq (sSet 0 (dCB oAbs (dCons (dVar 0) dNil)))
  (sSeq (sSet 1 (dCB oAbs (dCons (dVar 1) dNil)))
  (sSeq (sWhile (dTst (dGt (dVar 1) (dC (.int 0)))) (sSeq (sSet 2 (dMod (dVar 0) (dVar 1)))
  (sSeq (sSet 0 (dVar 1))
  (sSet 1 (dVar 2)))))
  (sRet (dVar 0)))))
def t_shareL : DTS := (sSeq (sSet 2 (dCall sp_gcdL (dCons (dVar 0) (dCons (dVar 1) dNil))))
  (sRet (dTup (dCons (dFdiv (dVar 0) (dVar 2)) (dCons (dFdiv (dVar 1) (dVar 2)) dNil)))))
def t_plusL : DTS := (sRet (dTup (dCons (dAdd (dMul (dIxN 0 (dVar 0)) (dIxN 1 (dVar 1))) (dMul (dIxN 0 (dVar 1)) (dIxN 1 (dVar 0)))) (dCons (dMul (dIxN 1 (dVar 0)) (dIxN 1 (dVar 1))) dNil))))
def t_timesL : DTS := (sRet (dTup (dCons (dMul (dIxN 0 (dVar 0)) (dIxN 0 (dVar 1))) (dCons (dMul (dIxN 1 (dVar 0)) (dIxN 1 (dVar 1))) dNil))))
def t_spotL : DTS := (sRet (dTup (dCons (dCall sp_shareL (dCons (dIxN 0 (dIxN 0 (dVar 0))) (dCons (dIxN 1 (dIxN 0 (dVar 0))) dNil))) (dCons (dCall sp_shareL (dCons (dIxN 0 (dIxN 1 (dVar 0))) (dCons (dIxN 1 (dIxN 1 (dVar 0))) dNil))) dNil))))
def t_spot_plusL : DTS := (sRet (dTup (dCons (dCall sp_plusL (dCons (dIxN 0 (dVar 0)) (dCons (dIxN 0 (dVar 1)) dNil))) (dCons (dCall sp_plusL (dCons (dIxN 1 (dVar 0)) (dCons (dIxN 1 (dVar 1)) dNil))) dNil))))
def t_spot_timesL : DTS := (sRet (dTup (dCons (dCall sp_timesL (dCons (dIxN 0 (dVar 0)) (dCons (dVar 1) dNil))) (dCons (dCall sp_timesL (dCons (dIxN 1 (dVar 0)) (dCons (dVar 1) dNil))) dNil))))
def t_leftL : DTS := (sRet (dSub (dMul (dSub (dIxN 0 (dVar 1)) (dIxN 0 (dVar 0))) (dSub (dIxN 1 (dVar 2)) (dIxN 1 (dVar 0)))) (dMul (dSub (dIxN 1 (dVar 1)) (dIxN 1 (dVar 0))) (dSub (dIxN 0 (dVar 2)) (dIxN 0 (dVar 0))))))
def t_halfL : DTS := (sSeq (sSet 1 (dLst dNil))
  (sSeq (sFor (iLst (dVar 0)) (gdName 2) (sSeq (sWhile (dAndT (dTst (dGt (dCB oLen (dCons (dVar 1) dNil)) (dC (.int 1)))) (dTst (dLe (dCall sp_leftL (dCons (dBin oIx (dVar 1) (dNeg (dC (.int 2)))) (dCons (dBin oIx (dVar 1) (dNeg (dC (.int 1)))) (dCons (dVar 2) dNil)))) (dC (.int 0))))) (sSet 1 (dSl (dVar 1) dNoPart (dPart (dNeg (dC (.int 1)))))))
  (sSet 1 (dBin oPlus (dVar 1) (dLst (dCons (dVar 2) dNil))))))
  (sRet (dSl (dVar 1) dNoPart (dPart (dNeg (dC (.int 1))))))))
def t_numberL : DTS := (sSeq (sIf (dTst (dLt (dVar 1) (dC (.int 1000)))) (sRet (dSub (dCall sp_takeL (dCons (dVar 0) (dCons (dAdd (dMul (dC (.int 2)) (dVar 1)) (dC (.int 1))) dNil))) (dVar 1))) sNext)
  (sRet (dSub (dMod (dCall sp_longL (dCons (dVar 0) (dCons (dC (.int 3)) dNil))) (dAdd (dMul (dC (.int 2)) (dVar 1)) (dC (.int 1)))) (dVar 1))))
def t_eightL : DTS := (sSeq (sPar 2 3 (dCons (dAdd (dMul (dC (.int 2)) (dVar 1)) (dC (.int 1))) (dCons (dAdd (dMul (dC (.int 2)) (dVar 1)) (dC (.int 1))) dNil)))
  (sSeq (sSet 4 (dLc (iRng (dC (.int 8))) (gdName 6) tYesD (dAdd (dC (.int 1)) (dMod (dCB oAbs (dCons (dCall sp_numberL (dCons (dVar 0) (dCons (dVar 1) dNil))) dNil)) (dVar 1))) [6]))
  (sSeq (sSet 5 (dLst (dCons (dTup (dCons (dC (.int 0)) (dCons (dIxN 0 (dVar 4)) dNil))) (dCons (dTup (dCons (dIxN 1 (dVar 4)) (dCons (dC (.int 0)) dNil))) (dCons (dTup (dCons (dSub (dVar 2) (dIxN 2 (dVar 4))) (dCons (dC (.int 0)) dNil))) (dCons (dTup (dCons (dVar 2) (dCons (dIxN 3 (dVar 4)) dNil))) dNil))))))
  (sRet (dCB oTuple (dCons (dBin oPlus (dVar 5) (dLst (dCons (dTup (dCons (dVar 2) (dCons (dSub (dVar 3) (dIxN 4 (dVar 4))) dNil))) (dCons (dTup (dCons (dSub (dVar 2) (dIxN 5 (dVar 4))) (dCons (dVar 3) dNil))) (dCons (dTup (dCons (dIxN 6 (dVar 4)) (dCons (dVar 3) dNil))) (dCons (dTup (dCons (dC (.int 0)) (dCons (dSub (dVar 3) (dIxN 7 (dVar 4))) dNil))) dNil)))))) dNil))))))
def t_shapeL : DTS := (sSeq (sSet 2 (dCall sp_takeL (dCons (dVar 0) (dCons (dC (.int 4)) dNil))))
  (sSeq (sIf (dTst (dEq (dVar 2) (dC (.int 0)))) (sSeq (sPar 6 7 (dCons (dNeg (dCB oAbs (dCons (dCall sp_numberL (dCons (dVar 0) (dCons (dVar 1) dNil))) dNil))) (dCons (dNeg (dCB oAbs (dCons (dCall sp_numberL (dCons (dVar 0) (dCons (dVar 1) dNil))) dNil))) dNil)))
  (sSeq (sPar 8 9 (dCons (dAdd (dC (.int 1)) (dCB oAbs (dCons (dCall sp_numberL (dCons (dVar 0) (dCons (dSub (dVar 1) (dC (.int 1))) dNil))) dNil))) (dCons (dAdd (dC (.int 1)) (dCB oAbs (dCons (dCall sp_numberL (dCons (dVar 0) (dCons (dSub (dVar 1) (dC (.int 1))) dNil))) dNil))) dNil)))
  (sRet (dTup (dCons (dTup (dCons (dVar 6) (dCons (dVar 7) dNil))) (dCons (dTup (dCons (dAdd (dVar 6) (dVar 8)) (dCons (dVar 7) dNil))) (dCons (dTup (dCons (dAdd (dVar 6) (dVar 8)) (dCons (dAdd (dVar 7) (dVar 9)) dNil))) (dCons (dTup (dCons (dVar 6) (dCons (dAdd (dVar 7) (dVar 9)) dNil))) dNil)))))))) sNext)
  (sSeq (sIf (dTst (dEq (dVar 2) (dC (.int 1)))) (sRet (dCall sp_eightL (dCons (dVar 0) (dCons (dFdiv (dVar 1) (dC (.int 3))) dNil)))) sNext)
  (sSeq (sSet 3 (dAdd (dC (.int 3)) (dCall sp_takeL (dCons (dVar 0) (dCons (dC (.int 6)) dNil)))))
  (sSeq (sSet 4 (dCB oSorted (dCons (dLc (iRng (dVar 3)) (gdName 10) tYesD (dTup (dCons (dCall sp_numberL (dCons (dVar 0) (dCons (dVar 1) dNil))) (dCons (dCall sp_numberL (dCons (dVar 0) (dCons (dVar 1) dNil))) dNil))) [10]) dNil)))
  (sSeq (sSet 5 (dCB oTuple (dCons (dBin oPlus (dCall sp_halfL (dCons (dVar 4) dNil)) (dCall sp_halfL (dCons (dRev (dVar 4)) dNil))) dNil)))
  (sSeq (sIf (dTst (dLt (dCB oLen (dCons (dVar 5) dNil)) (dC (.int 3)))) (sRet (dTup (dCons (dTup (dCons (dNeg (dC (.int 1))) (dCons (dC (.int 0)) dNil))) (dCons (dTup (dCons (dC (.int 2)) (dCons (dC (.int 0)) dNil))) (dCons (dTup (dCons (dC (.int 0)) (dCons (dC (.int 2)) dNil))) dNil))))) sNext)
  (sRet (dVar 5)))))))))
def t_waysL : DTS := (sSeq (sOwn 1)
  (sSeq (sFor (iEnumD (dVar 0)) (gdTup 2 (gdCons (gdName 2) (gdCons (gdName 3) gdNil))) (sSeq (sSet 4 (dBin oIx (dVar 0) (dMod (dAdd (dVar 2) (dC (.int 1))) (dCB oLen (dCons (dVar 0) dNil)))))
  (sApp 1 (dCall sp_wayL (dCons (dSub (dIxN 1 (dVar 4)) (dIxN 1 (dVar 3))) (dCons (dSub (dIxN 0 (dVar 3)) (dIxN 0 (dVar 4))) dNil))))))
  (sRet (dVar 1))))
def t_wayL : DTS := (sSeq (sSet 2 (dCall sp_gcdL (dCons (dVar 0) (dCons (dVar 1) dNil))))
  (sRet (dTup (dCons (dFdiv (dVar 0) (dVar 2)) (dCons (dFdiv (dVar 1) (dVar 2)) dNil)))))
def t_pair_waysL : DTS := (sSeq (sOwnCall 2 sp_waysL (dCons (dIxN 1 (dVar 0)) dNil))
  (sSeq (sFor (iLst (dCallF sp_waysL (dCons (dIxN 1 (dVar 1)) dNil))) (gdName 3) (sIf (dNotInOwn 2 (dTup (dCons (dNeg (dIxN 0 (dVar 3))) (dCons (dNeg (dIxN 1 (dVar 3))) dNil)))) (sApp 2 (dTup (dCons (dNeg (dIxN 0 (dVar 3))) (dCons (dNeg (dIxN 1 (dVar 3))) dNil)))) sNext))
  (sRet (dCB oSorted (dCons (dFrz 2) dNil)))))
def t_reachL : DTS := (sRet (dCB oMax (dCons (dLc (iTupD (dVar 0)) (gdName 2) tYesD (dAdd (dMul (dIxN 0 (dVar 1)) (dIxN 0 (dVar 2))) (dMul (dIxN 1 (dVar 1)) (dIxN 1 (dVar 2)))) [2]) dNil)))
def t_betweenL : DTS := (sSeq (sSet 3 (dCall sp_spot_plusL (dCons (dIxN 4 (dVar 1)) (dCons (dCall sp_spot_timesL (dCons (dIxN 4 (dVar 0)) (dCons (dTup (dCons (dNeg (dC (.int 1))) (dCons (dC (.int 1)) dNil))) dNil))) dNil))))
  (sSeq (sSet 4 (dCall sp_spot_plusL (dCons (dIxN 5 (dVar 1)) (dCons (dCall sp_spot_timesL (dCons (dIxN 5 (dVar 0)) (dCons (dTup (dCons (dNeg (dC (.int 1))) (dCons (dC (.int 1)) dNil))) dNil))) dNil))))
  (sSeq (sSet 5 (dCall sp_spot_plusL (dCons (dVar 3) (dCons (dCall sp_spot_timesL (dCons (dVar 4) (dCons (dVar 2) dNil))) dNil))))
  (sRet (dTup (dCons (dMul (dIxN 0 (dIxN 0 (dVar 5))) (dIxN 1 (dIxN 1 (dVar 5)))) (dCons (dMul (dIxN 0 (dIxN 1 (dVar 5))) (dIxN 1 (dIxN 0 (dVar 5)))) (dCons (dMul (dIxN 1 (dIxN 0 (dVar 5))) (dIxN 1 (dIxN 1 (dVar 5)))) dNil))))))))
def t_roomL : DTS := (sSeq (sSet 4 (dAdd (dCall sp_reachL (dCons (dIxN 1 (dVar 0)) (dCons (dVar 2) dNil))) (dCall sp_reachL (dCons (dIxN 1 (dVar 1)) (dCons (dTup (dCons (dNeg (dIxN 0 (dVar 2))) (dCons (dNeg (dIxN 1 (dVar 2))) dNil))) dNil)))))
  (sRet (dSub (dAdd (dMul (dIxN 0 (dVar 2)) (dIxN 0 (dVar 3))) (dMul (dIxN 1 (dVar 2)) (dIxN 1 (dVar 3)))) (dMul (dVar 4) (dIxN 2 (dVar 3))))))
def t_roomsL : DTS := (sSeq (sSet 3 (dCall sp_betweenL (dCons (dVar 0) (dCons (dVar 1) (dCons (dVar 2) dNil)))))
  (sRet (dLc (iLst (dCall sp_pair_waysL (dCons (dVar 0) (dCons (dVar 1) dNil)))) (gdName 4) tYesD (dCall sp_roomL (dCons (dVar 0) (dCons (dVar 1) (dCons (dVar 4) (dCons (dVar 3) dNil))))) [4])))
def t_overL : DTS := (sRet (dLt (dCB oMax (dCons (dCall sp_roomsL (dCons (dVar 0) (dCons (dVar 1) (dCons (dVar 2) dNil)))) dNil)) (dC (.int 0))))
def t_namesL : DTS := (sSeq (sSet 1 (dC (.str "abcdefghijklmnopqrstuvwxyz")))
  (sSeq (sSet 2 (dJoin (dC (.str (Str.ofString ""))) (dLc (iRng (dBin oIx (dLst (dCons (dC (.int 0)) (dCons (dC (.int 1)) (dCons (dC (.int 3)) (dCons (dC (.int 11)) dNil))))) (dCall sp_takeL (dCons (dVar 0) (dCons (dC (.int 4)) dNil))))) (gdName 6) tYesD (dBin oIx (dVar 1) (dCall sp_takeL (dCons (dVar 0) (dCons (dC (.int 26)) dNil)))) [6])))
  (sSeq (sSet 3 (dCall sp_takeL (dCons (dVar 0) (dCons (dAdd (dCB oLen (dCons (dVar 2) dNil)) (dC (.int 1))) dNil))))
  (sSeq (sSet 4 (dCall sp_takeL (dCons (dVar 0) (dCons (dC (.int 26)) dNil))))
  (sSeq (sSet 5 (dMod (dAdd (dAdd (dVar 4) (dC (.int 1))) (dCall sp_takeL (dCons (dVar 0) (dCons (dC (.int 25)) dNil)))) (dC (.int 26))))
  (sRet (dLst (dCons (dBin oPlus (dBin oPlus (dSl (dVar 2) dNoPart (dPart (dVar 3))) (dBin oIx (dVar 1) (dVar 4))) (dSl (dVar 2) (dPart (dVar 3)) dNoPart)) (dCons (dBin oPlus (dBin oPlus (dSl (dVar 2) dNoPart (dPart (dVar 3))) (dBin oIx (dVar 1) (dVar 5))) (dSl (dVar 2) (dPart (dVar 3)) dNoPart)) dNil)))))))))
def t_drawnL : DTS := (sSeq (sSet 2 (dBin oIx (dLst (dCons (dC (.int 0)) (dCons (dC (.int 2)) (dCons (dC (.int 20)) dNil)))) (dVar 1)))
  (sSeq (sIf (dTst (dEq (dVar 2) (dC (.int 0)))) (sRet (dCall sp_shareL (dCons (dSub (dCall sp_takeL (dCons (dVar 0) (dCons (dC (.int 19)) dNil))) (dC (.int 9))) (dCons (dAdd (dC (.int 1)) (dMul (dCall sp_takeL (dCons (dVar 0) (dCons (dC (.int 4)) dNil))) (dCall sp_takeL (dCons (dVar 0) (dCons (dC (.int 2)) dNil))))) dNil)))) sNext)
  (sSeq (sSet 3 (dSub (dC (.int 1)) (dMul (dC (.int 2)) (dCall sp_takeL (dCons (dVar 0) (dCons (dC (.int 2)) dNil))))))
  (sRet (dCall sp_shareL (dCons (dMul (dVar 3) (dCall sp_longL (dCons (dVar 0) (dCons (dVar 2) dNil)))) (dCons (dAdd (dC (.int 1)) (dCall sp_longL (dCons (dVar 0) (dCons (dCall sp_takeL (dCons (dVar 0) (dCons (dVar 2) dNil))) dNil)))) dNil)))))))
def t_rowL : DTS := (sSeq (sSet 5 (dCall sp_takeL (dCons (dVar 0) (dCons (dC (.int 6)) dNil))))
  (sSeq (sSet 6 (dCall sp_shapeL (dCons (dVar 0) (dCons (dVar 2) dNil))))
  (sSeq (sSet 7 (dTup (dCons (dCall sp_drawnL (dCons (dVar 0) (dCons (dVar 3) dNil))) (dCons (dCall sp_drawnL (dCons (dVar 0) (dCons (dVar 3) dNil))) dNil))))
  (sSeq (sIf (dAndT (dTst (dEq (dVar 5) (dC (.int 0)))) (dNotT (dTst (dVar 4)))) (sRet (dTup (dCons (dVar 1) (dCons (dVar 6) (dCons (dC (.int 0)) (dCons (dC .non) (dCons (dVar 7) (dCons (dTup (dCons (dTup (dCons (dC (.int 0)) (dCons (dC (.int 1)) dNil))) (dCons (dTup (dCons (dC (.int 0)) (dCons (dC (.int 1)) dNil))) dNil))) dNil)))))))) sNext)
  (sSeq (sSet 8 (dAdd (dC (.int 1)) (dMul (dCall sp_takeL (dCons (dVar 0) (dCons (dC (.int 1000)) dNil))) (dAdd (dC (.int 1)) (dCall sp_takeL (dCons (dVar 0) (dCons (dC (.int 999)) dNil)))))))
  (sSeq (sIf (dOrT (dTst (dNe (dVar 5) (dC (.int 1)))) (dTst (dVar 4))) (sRet (dTup (dCons (dVar 1) (dCons (dVar 6) (dCons (dVar 8) (dCons (dC .non) (dCons (dVar 7) (dCons (dTup (dCons (dCall sp_drawnL (dCons (dVar 0) (dCons (dVar 3) dNil))) (dCons (dCall sp_drawnL (dCons (dVar 0) (dCons (dVar 3) dNil))) dNil))) dNil)))))))) sNext)
  (sSeq (sPar 9 10 (dCons (dAdd (dC (.int 1)) (dCall sp_takeL (dCons (dVar 0) (dCons (dC (.int 9)) dNil)))) (dCons (dSub (dCall sp_takeL (dCons (dVar 0) (dCons (dC (.int 19)) dNil))) (dC (.int 9))) dNil)))
  (sSeq (sSet 11 (dBin oIx (dLst (dCons (dCall sp_wayL (dCons (dVar 9) (dCons (dVar 10) dNil))) (dCons (dCall sp_wayL (dCons (dVar 10) (dCons (dVar 9) dNil))) dNil))) (dCall sp_takeL (dCons (dVar 0) (dCons (dC (.int 2)) dNil)))))
  (sSeq (sSet 12 (dCall sp_spotL (dCons (dCall sp_spot_timesL (dCons (dTup (dCons (dTup (dCons (dIxN 0 (dVar 11)) (dCons (dC (.int 1)) dNil))) (dCons (dTup (dCons (dIxN 1 (dVar 11)) (dCons (dC (.int 1)) dNil))) dNil))) (dCons (dCall sp_drawnL (dCons (dVar 0) (dCons (dVar 3) dNil))) dNil))) dNil)))
  (sRet (dTup (dCons (dVar 1) (dCons (dVar 6) (dCons (dVar 8) (dCons (dVar 11) (dCons (dVar 7) (dCons (dVar 12) dNil)))))))))))))))))
def t_pairL : DTS := (sSeq (sPar 1 2 (dCons (dCall sp_takeL (dCons (dVar 0) (dCons (dC (.int 4)) dNil))) (dCons (dCall sp_takeL (dCons (dVar 0) (dCons (dC (.int 5)) dNil))) dNil)))
  (sSeq (sSet 3 (dBin oIx (dLst (dCons (dC (.int 0)) (dCons (dC (.int 0)) (dCons (dC (.int 0)) (dCons (dC (.int 1)) (dCons (dC (.int 2)) dNil)))))) (dCall sp_takeL (dCons (dVar 0) (dCons (dC (.int 5)) dNil)))))
  (sSeq (sSet 4 (dBin oIx (dLst (dCons (dC (.int 5)) (dCons (dC (.int 5)) (dCons (dC (.int 30)) (dCons (dC (.int 1000000)) dNil))))) (dCall sp_takeL (dCons (dVar 0) (dCons (dC (.int 4)) dNil)))))
  (sSeq (sSet 5 (dCall sp_namesL (dCons (dVar 0) dNil)))
  (sSeq (sSet 6 (dCall sp_rowL (dCons (dVar 0) (dCons (dIxN 0 (dVar 5)) (dCons (dVar 4) (dCons (dVar 3) (dCons (dC (.bl false)) dNil)))))))
  (sSeq (sSet 7 (dCall sp_rowL (dCons (dVar 0) (dCons (dIxN 1 (dVar 5)) (dCons (dVar 4) (dCons (dVar 3) (dCons (dGt (dVar 2) (dC (.int 0))) dNil)))))))
  (sSeq (sSet 8 (dCall sp_shareL (dCons (dAdd (dC (.int 1)) (dCall sp_takeL (dCons (dVar 0) (dCons (dC (.int 6)) dNil)))) (dCons (dAdd (dC (.int 1)) (dCall sp_takeL (dCons (dVar 0) (dCons (dC (.int 3)) dNil)))) dNil))))
  (sSeq (sSet 9 (dCall sp_takeL (dCons (dVar 0) (dCons (dCB oLen (dCons (dIxN 1 (dVar 6)) dNil)) dNil))))
  (sSeq (sPar 10 11 (dCons (dBin oIx (dIxN 1 (dVar 6)) (dVar 9)) (dCons (dBin oIx (dIxN 1 (dVar 6)) (dMod (dAdd (dVar 9) (dC (.int 1))) (dCB oLen (dCons (dIxN 1 (dVar 6)) dNil)))) dNil)))
  (sSeq (sSet 12 (dTup (dCons (dTup (dCons (dSub (dIxN 0 (dVar 11)) (dIxN 0 (dVar 10))) (dCons (dC (.int 1)) dNil))) (dCons (dTup (dCons (dSub (dIxN 1 (dVar 11)) (dIxN 1 (dVar 10))) (dCons (dC (.int 1)) dNil))) dNil))))
  (sSeq (sSet 13 (dBin oIx (dIxN 1 (dVar 7)) (dCall sp_takeL (dCons (dVar 0) (dCons (dCB oLen (dCons (dIxN 1 (dVar 7)) dNil)) dNil)))))
  (sSeq (sSet 14 (dBin oIx (dLst (dCons (dTup (dCons (dC (.int 0)) (dCons (dC (.int 1)) dNil))) (dCons (dTup (dCons (dC (.int 0)) (dCons (dC (.int 1)) dNil))) (dCons (dTup (dCons (dC (.int 1)) (dCons (dC (.int 2)) dNil))) (dCons (dTup (dCons (dC (.int 1)) (dCons (dC (.int 3)) dNil))) dNil))))) (dCall sp_takeL (dCons (dVar 0) (dCons (dC (.int 4)) dNil)))))
  (sSeq (sSet 15 (dCall sp_spot_plusL (dCons (dIxN 4 (dVar 6)) (dCons (dTup (dCons (dTup (dCons (dSub (dIxN 0 (dVar 10)) (dIxN 0 (dVar 13))) (dCons (dC (.int 1)) dNil))) (dCons (dTup (dCons (dSub (dIxN 1 (dVar 10)) (dIxN 1 (dVar 13))) (dCons (dC (.int 1)) dNil))) dNil))) dNil))))
  (sSeq (sSet 15 (dCall sp_spot_plusL (dCons (dVar 15) (dCons (dCall sp_spot_timesL (dCons (dVar 12) (dCons (dVar 14) dNil))) dNil))))
  (sSeq (sPar 16 17 (dCons (dIxN 4 (dVar 7)) (dCons (dIxN 5 (dVar 7)) dNil)))
  (sSeq (sIf (dTst (dGt (dVar 1) (dC (.int 1)))) (sSeq (sSet 18 (dLst (dCons (dTup (dCons (dC (.int 0)) (dCons (dC (.int 1)) dNil))) (dCons (dTup (dCons (dC (.int 0)) (dCons (dC (.int 1)) dNil))) (dCons (dTup (dCons (dC (.int 1)) (dCons (dC (.int 7)) dNil))) (dCons (dTup (dCons (dNeg (dC (.int 1))) (dCons (dC (.int 7)) dNil))) dNil))))))
  (sSet 16 (dCall sp_spotL (dCons (dCall sp_spot_plusL (dCons (dVar 15) (dCons (dTup (dCons (dBin oIx (dVar 18) (dCall sp_takeL (dCons (dVar 0) (dCons (dC (.int 4)) dNil)))) (dCons (dBin oIx (dVar 18) (dCall sp_takeL (dCons (dVar 0) (dCons (dC (.int 4)) dNil)))) dNil))) dNil))) dNil)))) sNext)
  (sSeq (sIf (dTst (dEq (dVar 2) (dC (.int 1)))) (sSet 17 (dIxN 5 (dVar 6))) sNext)
  (sSeq (sIf (dTst (dEq (dVar 2) (dC (.int 2)))) (sSet 17 (dCall sp_spotL (dCons (dCall sp_spot_plusL (dCons (dIxN 5 (dVar 6)) (dCons (dCall sp_spot_timesL (dCons (dVar 12) (dCons (dTup (dCons (dSub (dCall sp_takeL (dCons (dVar 0) (dCons (dC (.int 9)) dNil))) (dC (.int 4))) (dCons (dC (.int 3)) dNil))) dNil))) dNil))) dNil))) sNext)
  (sSeq (sIf (dTst (dGt (dVar 2) (dC (.int 2)))) (sSeq (sSet 19 (dCall sp_spot_plusL (dCons (dVar 15) (dCons (dCall sp_spot_timesL (dCons (dVar 16) (dCons (dTup (dCons (dNeg (dC (.int 1))) (dCons (dC (.int 1)) dNil))) dNil))) dNil))))
  (sSet 17 (dCall sp_spotL (dCons (dCall sp_spot_plusL (dCons (dIxN 5 (dVar 6)) (dCons (dCall sp_spot_timesL (dCons (dVar 19) (dCons (dTup (dCons (dIxN 1 (dVar 8)) (dCons (dIxN 0 (dVar 8)) dNil))) dNil))) dNil))) dNil)))) sNext)
  (sRet (dTup (dCons (dVar 6) (dCons (dBin oPlus (dSl (dVar 7) dNoPart (dPart (dC (.int 4)))) (dTup (dCons (dVar 16) (dCons (dVar 17) dNil)))) (dCons (dVar 8) dNil))))))))))))))))))))))))
def t_untilL : DTS := (sSeq (sSet 2 (dCall sp_takeL (dCons (dVar 0) (dCons (dC (.int 6)) dNil))))
  (sSeq (sSet 3 (dTup (dCons (dC (.int 1)) (dCons (dAdd (dC (.int 1)) (dCall sp_takeL (dCons (dVar 0) (dCons (dC (.int 90)) dNil)))) dNil))))
  (sSeq (sIf (dTst (dEq (dVar 2) (dC (.int 0)))) (sRet (dTup (dCons (dC (.int 0)) (dCons (dC (.int 1)) dNil)))) sNext)
  (sSeq (sIf (dTst (dLt (dVar 2) (dC (.int 3)))) (sRet (dVar 1)) sNext)
  (sSeq (sIf (dTst (dEq (dVar 2) (dC (.int 3)))) (sRet (dCall sp_shareL (dCons (dAdd (dMul (dIxN 0 (dVar 1)) (dIxN 1 (dVar 3))) (dIxN 1 (dVar 1))) (dCons (dMul (dIxN 1 (dVar 1)) (dIxN 1 (dVar 3))) dNil)))) sNext)
  (sSeq (sIf (dAndT (dTst (dEq (dVar 2) (dC (.int 4)))) (dTst (dGt (dMul (dIxN 0 (dVar 1)) (dIxN 1 (dVar 3))) (dIxN 1 (dVar 1))))) (sRet (dCall sp_shareL (dCons (dSub (dMul (dIxN 0 (dVar 1)) (dIxN 1 (dVar 3))) (dIxN 1 (dVar 1))) (dCons (dMul (dIxN 1 (dVar 1)) (dIxN 1 (dVar 3))) dNil)))) sNext)
  (sRet (dCall sp_shareL (dCons (dCall sp_takeL (dCons (dVar 0) (dCons (dC (.int 40)) dNil))) (dCons (dAdd (dC (.int 1)) (dCall sp_takeL (dCons (dVar 0) (dCons (dC (.int 7)) dNil)))) dNil))))))))))
def t_crossingsL : DTS := (sSeq (sOwn 2)
  (sSeq (sPar 3 4 (dCons (dCall sp_betweenL (dCons (dVar 0) (dCons (dVar 1) (dCons (dTup (dCons (dC (.int 0)) (dCons (dC (.int 1)) dNil))) dNil)))) (dCons (dCall sp_betweenL (dCons (dVar 0) (dCons (dVar 1) (dCons (dTup (dCons (dC (.int 1)) (dCons (dC (.int 1)) dNil))) dNil)))) dNil)))
  (sSeq (sFor (iLst (dCall sp_pair_waysL (dCons (dVar 0) (dCons (dVar 1) dNil)))) (gdName 5) (sSeq (sPar 6 7 (dCons (dCall sp_roomL (dCons (dVar 0) (dCons (dVar 1) (dCons (dVar 5) (dCons (dVar 3) dNil))))) (dCons (dCall sp_roomL (dCons (dVar 0) (dCons (dVar 1) (dCons (dVar 5) (dCons (dVar 4) dNil))))) dNil)))
  (sSeq (sSet 8 (dSub (dMul (dVar 7) (dIxN 2 (dVar 3))) (dMul (dVar 6) (dIxN 2 (dVar 4)))))
  (sSeq (sIf (dTst (dGt (dVar 8) (dC (.int 0)))) (sApp 2 (dTup (dCons (dCall sp_shareL (dCons (dMul (dNeg (dVar 6)) (dIxN 2 (dVar 4))) (dCons (dVar 8) dNil))) (dCons (dVar 5) (dCons (dC (.bl true)) dNil))))) sNext)
  (sIf (dTst (dLt (dVar 8) (dC (.int 0)))) (sApp 2 (dTup (dCons (dCall sp_shareL (dCons (dMul (dVar 6) (dIxN 2 (dVar 4))) (dCons (dNeg (dVar 8)) dNil))) (dCons (dVar 5) (dCons (dC (.bl false)) dNil))))) sNext)))))
  (sRet (dFrz 2)))))
def t_uprightL : DTS := (sSeq (sSet 2 (dCall sp_spot_plusL (dCons (dIxN 5 (dVar 1)) (dCons (dCall sp_spot_timesL (dCons (dIxN 5 (dVar 0)) (dCons (dTup (dCons (dNeg (dC (.int 1))) (dCons (dC (.int 1)) dNil))) dNil))) dNil))))
  (sSeq (sPar 3 4 (dCons (dMul (dNeg (dIxN 0 (dIxN 1 (dVar 2)))) (dIxN 1 (dIxN 0 (dVar 2)))) (dCons (dMul (dIxN 0 (dIxN 0 (dVar 2))) (dIxN 1 (dIxN 1 (dVar 2)))) dNil)))
  (sSeq (sIf (dAndT (dTst (dEq (dVar 3) (dC (.int 0)))) (dTst (dEq (dVar 4) (dC (.int 0))))) (sRet (dTup (dCons (dC (.int 0)) (dCons (dC (.int 1)) dNil)))) sNext)
  (sRet (dCall sp_wayL (dCons (dVar 3) (dCons (dVar 4) dNil)))))))
def t_turnedL : DTS := (sRet (dBin oPlus (dSl (dVar 0) dNoPart (dPart (dNeg (dC (.int 1))))) (dTup (dCons (dTup (dCons (dNeg (dIxN 0 (dBin oIx (dVar 0) (dNeg (dC (.int 1)))))) (dCons (dNeg (dIxN 1 (dBin oIx (dVar 0) (dNeg (dC (.int 1)))))) dNil))) dNil))))
def t_papersL : DTS := (sSeq (sSet 3 (dCall sp_pair_waysL (dCons (dVar 1) (dCons (dVar 2) dNil))))
  (sSeq (sAsg (dCall sp_uprightL (dCons (dVar 1) (dCons (dVar 2) dNil))) (gdTup 2 (gdCons (gdName 4) (gdCons (gdName 5) gdNil))))
  (sSeq (sOwnCat 6 (dLc (iLst (dVar 3)) (gdName 9) tYesD (dTup (dCons (dC (.str "clear")) (dCons (dVar 9) dNil))) [9]) (dLst (dCons (dTup (dCons (dC (.str "clear")) (dCons (dTup (dCons (dVar 4) (dCons (dVar 5) dNil))) dNil))) (dCons (dTup (dCons (dC (.str "clear")) (dCons (dTup (dCons (dNeg (dVar 4)) (dCons (dNeg (dVar 5)) dNil))) dNil))) dNil))))
  (sSeq (sFor (iRng (dC (.int 3))) (gdName 7) (sApp 6 (dTup (dCons (dC (.str "clear")) (dCons (dCall sp_wayL (dCons (dSub (dCall sp_takeL (dCons (dVar 0) (dCons (dC (.int 99)) dNil))) (dC (.int 49))) (dCons (dAdd (dC (.int 1)) (dCall sp_takeL (dCons (dVar 0) (dCons (dC (.int 49)) dNil)))) dNil))) dNil)))))
  (sSeq (sFor (iLst (dCall sp_crossingsL (dCons (dVar 1) (dCons (dVar 2) dNil)))) (gdTup 3 (gdCons (gdName 8) (gdCons (gdName 9) (gdCons (gdName 10) gdNil)))) (sSeq (sSet 11 (dCall sp_plusL (dCons (dVar 8) (dCons (dTup (dCons (dC (.int 1)) (dCons (dAdd (dC (.int 1)) (dCall sp_takeL (dCons (dVar 0) (dCons (dC (.int 99)) dNil)))) dNil))) dNil))))
  (sSeq (sOwnCat 6 (dFrz 6) (dLst (dCons (dTup (dCons (dC (.str "meets")) (dCons (dVar 8) (dCons (dVar 9) dNil)))) (dCons (dTup (dCons (dC (.str "meets")) (dCons (dVar 8) (dCons (dBin oIx (dVar 3) (dCall sp_takeL (dCons (dVar 0) (dCons (dCB oLen (dCons (dVar 3) dNil)) dNil)))) dNil)))) dNil))))
  (sApp 6 (dTup (dCons (dC (.str "meets")) (dCons (dCall sp_shareL (dCons (dIxN 0 (dVar 11)) (dCons (dIxN 1 (dVar 11)) dNil))) (dCons (dVar 9) dNil))))))))
  (sRet (dFrz 6)))))))
def t_told_is_rightL : DTS := (sSeq (sSet 4 (dCall sp_first (dCons (dVar 0) (dCons (dVar 1) (dCons (dVar 2) dNil)))))
  (sSeq (sIf (dOrT (dNotT (dTst (dCall sp_first_held (dCons (dVar 0) (dCons (dVar 1) (dCons (dVar 2) (dCons (dVar 4) dNil))))))) (dNotT (dTst (dCall sp_first_held (dCons (dVar 1) (dCons (dVar 0) (dCons (dVar 2) (dCons (dCall sp_turnedL (dCons (dVar 4) dNil)) dNil)))))))) (sRet (dC (.bl false))) sNext)
  (sSeq (sIf (dTst (dEq (dIxN 0 (dVar 4)) (dC (.str "clear")))) (sRet (dBin (oEqD false) (dVar 3) (dLst dNil))) sNext)
  (sRet (dBin (oEqD false) (dLc (iLst (dVar 3)) (gdName 5) (dTst (dBin (oEqD true) (dVar 5) (dIxN 1 (dVar 4)))) (dVar 5) [5]) (dLst dNil))))))
def t_law : DTS := (sSeq (sSet 1 (dCall sp_deckL (dCons (dVar 0) dNil)))
  (sSeq (sAsg (dCall sp_pairL (dCons (dVar 1) dNil)) (gdTup 3 (gdCons (gdName 2) (gdCons (gdName 3) (gdCons (gdName 4) gdNil)))))
  (sSeq (sSet 5 (dCall sp_untilL (dCons (dVar 1) (dCons (dVar 4) dNil))))
  (sSeq (sSet 6 (dLc (iLst (dCall sp_papersL (dCons (dVar 1) (dCons (dVar 2) (dCons (dVar 3) dNil))))) (gdName 9) (dTst (dCall sp_first_held (dCons (dVar 2) (dCons (dVar 3) (dCons (dVar 5) (dCons (dVar 9) dNil)))))) (dVar 9) [9]))
  (sSeq (sSet 7 (dLc (iLst (dVar 6)) (gdName 9) (dTst (dEq (dIxN 0 (dVar 9)) (dC (.str "meets")))) (dIxN 1 (dVar 9)) [9]))
  (sSeq (sIf (dAndT (dTst (dBin (oEqD true) (dVar 7) (dLst dNil))) (dTst (dBin (oEqD true) (dLc (iLst (dVar 6)) (gdName 9) (dTst (dEq (dIxN 0 (dVar 9)) (dC (.str "clear")))) (dVar 9) [9]) (dLst dNil)))) (sRet (dC (.bl false))) sNext)
  (sSeq (sIf (dTst (dBin (oEqD true) (dLc (iLst (dVar 7)) (gdName 10) (dTst (dBin (oEqD true) (dVar 10) (dIxN 0 (dVar 7)))) (dVar 10) [10]) (dLst dNil))) (sRet (dC (.bl false))) sNext)
  (sSeq (sIf (dTst (dCall sp_overL (dCons (dVar 2) (dCons (dVar 3) (dCons (dTup (dCons (dC (.int 0)) (dCons (dC (.int 1)) dNil))) dNil))))) (sRet (dBin (oEqD false) (dVar 6) (dLst dNil))) sNext)
  (sSeq (sIf (dNotT (dTst (dCall sp_told_is_rightL (dCons (dVar 2) (dCons (dVar 3) (dCons (dVar 5) (dCons (dVar 7) dNil))))))) (sRet (dC (.bl false))) sNext)
  (sSeq (sSet 8 (dCall sp_plusL (dCons (dVar 5) (dCons (dTup (dCons (dAdd (dC (.int 1)) (dCall sp_takeL (dCons (dVar 1) (dCons (dC (.int 9)) dNil)))) (dCons (dAdd (dC (.int 1)) (dCall sp_takeL (dCons (dVar 1) (dCons (dC (.int 9)) dNil)))) dNil))) dNil))))
  (sSeq (sFor (iLst (dVar 6)) (gdName 9) (sIf (dTst (dEq (dIxN 0 (dVar 9)) (dC (.str "meets")))) (sSeq (sIf (dNotT (dTst (dCall sp_first_held (dCons (dVar 2) (dCons (dVar 3) (dCons (dCall sp_shareL (dCons (dIxN 0 (dVar 8)) (dCons (dIxN 1 (dVar 8)) dNil))) (dCons (dVar 9) dNil))))))) (sRet (dC (.bl false))) sNext)
  (sIf (dTst (dNe (dIxN 0 (dCall sp_first (dCons (dVar 2) (dCons (dVar 3) (dCons (dIxN 1 (dVar 9)) dNil))))) (dC (.str "clear")))) (sRet (dC (.bl false))) sNext)) sNext))
  (sRet (dC (.bl true))))))))))))))
end K23
/-! the printed walks (gen_all.py) -/
namespace K23
open PySem PySem.Spec PyProof.Rows L2
theorem walk_is_whole {P : Program} {w : World} {K : PySem.W.Frag} {mg : Str → Option Value} {base : Heap} (m_bool : mg "bool" = none) (m_int : mg "int" = none) (m_isinstance : mg "isinstance" = none) {f : Addr} (cdv : Value) (A : Around) (outer : List Env) (s : Shared) (H : Hp) (E : XK) (hr : Room 0 (A.deeper (envOfC "is_whole" (defScope S_is_whole) s.heap.objs.size f cdv))) :
    DSs (cxOf CX0 P w K mg base N_is_whole "is_whole" (defScope S_is_whole) f cdv A outer s H E).nox (defBody S_is_whole) t_is_whole :=
  (dss_one (ds_ret (de_and (de_isiInt m_isinstance m_int (de_var 0)) (de_one (de_not (de_isiBool m_isinstance m_bool (de_var 0)))))))
theorem walk_divisor {P : Program} {w : World} {K : PySem.W.Frag} {mg : Str → Option Value} {base : Heap} (m_abs : mg "abs" = none) {f : Addr} (cdv : Value) (A : Around) (outer : List Env) (s : Shared) (H : Hp) (E : XK) (hr : Room 0 (A.deeper (envOfC "divisor" (defScope S_divisor) s.heap.objs.size f cdv))) :
    DSs (cxOf CX0 P w K mg base N_divisor "divisor" (defScope S_divisor) f cdv A outer s H E).nox (defBody S_divisor) t_divisor :=
  (dss_cons (ds_par 0 1 rfl sc_divisor.nd (da_cons (de_abs m_abs (da_cons (de_var 0) da_nil)) (da_cons (de_abs m_abs (da_cons (de_var 1) da_nil)) da_nil)))
    (dss_cons (ds_while PassesOwn.never (dt_gt (de_var 1) de_int) (dss_one (ds_par 0 1 rfl sc_divisor.nd (da_cons (de_var 1) (da_cons (de_mod (de_var 0) (de_var 1)) da_nil)))))
    (dss_one (ds_ret (de_var 0)))))
theorem walk_is_share {P : Program} {w : World} {K : PySem.W.Frag} {mg : Str → Option Value} {base : Heap} (C_divisor : Cal P w K mg base 1 "divisor" 2 sp_divisor) (C_is_whole : Cal P w K mg base 1 "is_whole" 1 sp_is_whole) (m_isinstance : mg "isinstance" = none) (m_len : mg "len" = none) (m_tuple : mg "tuple" = none) {f : Addr} (cdv : Value) (A : Around) (outer : List Env) (s : Shared) (H : Hp) (E : XK) (hr : Room 1 (A.deeper (envOfC "is_share" (defScope S_is_share) s.heap.objs.size f cdv))) :
    DSs (cxOf CX0 P w K mg base N_is_share "is_share" (defScope S_is_share) f cdv A outer s H E).nox (defBody S_is_share) t_is_share :=
  (dss_cons (ds_if (PW.pt (dw_or (dt_not (dt_val (de_isiTuple m_isinstance m_tuple (de_var 0)))) (dw_or1 (dt_ne (de_len m_len (da_cons (de_var 0) da_nil)) de_int)))) (dss_one (ds_ret de_bl)) dss_nil)
    (dss_cons (ds_if (PW.pt (dw_or (dt_not (dt_val (de_call C_is_whole hr (by omega) (da_cons (de_ixN (k := 0) (de_var 0)) da_nil)))) (dw_or (dt_not (dt_val (de_call C_is_whole hr (by omega) (da_cons (de_ixN (k := 1) (de_var 0)) da_nil)))) (dw_or1 (dt_lt (de_ixN (k := 1) (de_var 0)) de_int))))) (dss_one (ds_ret de_bl)) dss_nil)
    (dss_one (ds_ret (de_eq (de_call C_divisor hr (by omega) (da_cons (de_ixN (k := 0) (de_var 0)) (da_cons (de_ixN (k := 1) (de_var 0)) da_nil))) de_int)))))
theorem walk_share {P : Program} {w : World} {K : PySem.W.Frag} {mg : Str → Option Value} {base : Heap} (C_divisor : Cal P w K mg base 1 "divisor" 2 sp_divisor) {f : Addr} (cdv : Value) (A : Around) (outer : List Env) (s : Shared) (H : Hp) (E : XK) (hr : Room 1 (A.deeper (envOfC "share" (defScope S_share) s.heap.objs.size f cdv))) :
    DSs (cxOf CX0 P w K mg base N_share "share" (defScope S_share) f cdv A outer s H E).nox (defBody S_share) t_share :=
  (dss_cons (ds_if (dt_eq (de_var 1) de_int) (dss_one ds_never) dss_nil)
    (dss_cons (ds_set 2 sc_share.nd (de_call C_divisor hr (by omega) (da_cons (de_var 0) (da_cons (de_var 1) da_nil))))
    (dss_cons (ds_if (dt_lt (de_var 1) de_int) (dss_one (ds_set 2 sc_share.nd (de_neg (de_var 2)))) dss_nil)
    (dss_one (ds_ret (de_tup (da_cons (de_fdiv (de_var 0) (de_var 2)) (da_cons (de_fdiv (de_var 1) (de_var 2)) da_nil))))))))
theorem walk_plus {P : Program} {w : World} {K : PySem.W.Frag} {mg : Str → Option Value} {base : Heap} (C_share : Cal P w K mg base 2 "share" 2 sp_share) {f : Addr} (cdv : Value) (A : Around) (outer : List Env) (s : Shared) (H : Hp) (E : XK) (hr : Room 2 (A.deeper (envOfC "plus" (defScope S_plus) s.heap.objs.size f cdv))) :
    DSs (cxOf CX0 P w K mg base N_plus "plus" (defScope S_plus) f cdv A outer s H E).nox (defBody S_plus) t_plus :=
  (dss_one (ds_ret (de_call C_share hr (by omega) (da_cons (de_add (de_mul (de_ixN (k := 0) (de_var 0)) (de_ixN (k := 1) (de_var 1))) (de_mul (de_ixN (k := 0) (de_var 1)) (de_ixN (k := 1) (de_var 0)))) (da_cons (de_mul (de_ixN (k := 1) (de_var 0)) (de_ixN (k := 1) (de_var 1))) da_nil)))))
theorem walk_minus {P : Program} {w : World} {K : PySem.W.Frag} {mg : Str → Option Value} {base : Heap} (C_share : Cal P w K mg base 2 "share" 2 sp_share) {f : Addr} (cdv : Value) (A : Around) (outer : List Env) (s : Shared) (H : Hp) (E : XK) (hr : Room 2 (A.deeper (envOfC "minus" (defScope S_minus) s.heap.objs.size f cdv))) :
    DSs (cxOf CX0 P w K mg base N_minus "minus" (defScope S_minus) f cdv A outer s H E).nox (defBody S_minus) t_minus :=
  (dss_one (ds_ret (de_call C_share hr (by omega) (da_cons (de_sub (de_mul (de_ixN (k := 0) (de_var 0)) (de_ixN (k := 1) (de_var 1))) (de_mul (de_ixN (k := 0) (de_var 1)) (de_ixN (k := 1) (de_var 0)))) (da_cons (de_mul (de_ixN (k := 1) (de_var 0)) (de_ixN (k := 1) (de_var 1))) da_nil)))))
theorem walk_times {P : Program} {w : World} {K : PySem.W.Frag} {mg : Str → Option Value} {base : Heap} (C_share : Cal P w K mg base 2 "share" 2 sp_share) {f : Addr} (cdv : Value) (A : Around) (outer : List Env) (s : Shared) (H : Hp) (E : XK) (hr : Room 2 (A.deeper (envOfC "times" (defScope S_times) s.heap.objs.size f cdv))) :
    DSs (cxOf CX0 P w K mg base N_times "times" (defScope S_times) f cdv A outer s H E).nox (defBody S_times) t_times :=
  (dss_one (ds_ret (de_call C_share hr (by omega) (da_cons (de_mul (de_ixN (k := 0) (de_var 0)) (de_ixN (k := 0) (de_var 1))) (da_cons (de_mul (de_ixN (k := 1) (de_var 0)) (de_ixN (k := 1) (de_var 1))) da_nil)))))
theorem walk_over {P : Program} {w : World} {K : PySem.W.Frag} {mg : Str → Option Value} {base : Heap} (C_share : Cal P w K mg base 2 "share" 2 sp_share) {f : Addr} (cdv : Value) (A : Around) (outer : List Env) (s : Shared) (H : Hp) (E : XK) (hr : Room 2 (A.deeper (envOfC "over" (defScope S_over) s.heap.objs.size f cdv))) :
    DSs (cxOf CX0 P w K mg base N_over "over" (defScope S_over) f cdv A outer s H E).nox (defBody S_over) t_over :=
  (dss_cons (ds_if (dt_eq (de_ixN (k := 0) (de_var 1)) de_int) (dss_one ds_never) dss_nil)
    (dss_one (ds_ret (de_call C_share hr (by omega) (da_cons (de_mul (de_ixN (k := 0) (de_var 0)) (de_ixN (k := 1) (de_var 1))) (da_cons (de_mul (de_ixN (k := 1) (de_var 0)) (de_ixN (k := 0) (de_var 1))) da_nil))))))
theorem walk_order {P : Program} {w : World} {K : PySem.W.Frag} {mg : Str → Option Value} {base : Heap}  {f : Addr} (cdv : Value) (A : Around) (outer : List Env) (s : Shared) (H : Hp) (E : XK) (hr : Room 0 (A.deeper (envOfC "order" (defScope S_order) s.heap.objs.size f cdv))) :
    DSs (cxOf CX0 P w K mg base N_order "order" (defScope S_order) f cdv A outer s H E).nox (defBody S_order) t_order :=
  (dss_cons (ds_set 2 sc_order.nd (de_mul (de_ixN (k := 0) (de_var 0)) (de_ixN (k := 1) (de_var 1))))
    (dss_cons (ds_set 3 sc_order.nd (de_mul (de_ixN (k := 0) (de_var 1)) (de_ixN (k := 1) (de_var 0))))
    (dss_cons (ds_if (dt_eq (de_var 2) (de_var 3)) (dss_one (ds_ret de_int)) dss_nil)
    (dss_one (ds_ret (de_if (dt_lt (de_var 2) (de_var 3)) (de_neg de_int) de_int))))))
theorem walk_is_way {P : Program} {w : World} {K : PySem.W.Frag} {mg : Str → Option Value} {base : Heap} (C_divisor : Cal P w K mg base 1 "divisor" 2 sp_divisor) (C_is_whole : Cal P w K mg base 1 "is_whole" 1 sp_is_whole) (m_all : mg "all" = none) (m_isinstance : mg "isinstance" = none) (m_len : mg "len" = none) (m_tuple : mg "tuple" = none) {f : Addr} (cdv : Value) (A : Around) (outer : List Env) (s : Shared) (H : Hp) (E : XK) (hr : Room 1 (A.deeper (envOfC "is_way" (defScope S_is_way) s.heap.objs.size f cdv))) :
    DSs (cxOf CX0 P w K mg base N_is_way "is_way" (defScope S_is_way) f cdv A outer s H E).nox (defBody S_is_way) t_is_way :=
  (dss_cons (ds_if (PW.pt (dw_or (dt_not (dt_val (de_isiTuple m_isinstance m_tuple (de_var 0)))) (dw_or (dt_ne (de_len m_len (da_cons (de_var 0) da_nil)) de_int) (dw_or1 (dt_not (dt_val (de_all rfl m_all (da_cons (de_lc (own := [("one", 1)]) rfl sc_is_way.nd (di_tup (de_var 0)) (blkOk_by (N := N_is_way) (sc := defScope S_is_way) (by decide +kernel)) (by decide) (fun _ _ _ _ _ => (dg_name (i := 1) sc_is_way.nd)) (fun _ _ _ _ _ => dts_nil) (fun _ _ _ _ _ => (de_call C_is_whole hr (by omega) (da_cons (de_var 1) da_nil)))) da_nil)))))))) (dss_one (ds_ret de_bl)) dss_nil)
    (dss_one (ds_ret (de_eq (de_call C_divisor hr (by omega) (da_cons (de_ixN (k := 0) (de_var 0)) (da_cons (de_ixN (k := 1) (de_var 0)) da_nil))) de_int))))
theorem walk_way_of {P : Program} {w : World} {K : PySem.W.Frag} {mg : Str → Option Value} {base : Heap} (C_divisor : Cal P w K mg base 1 "divisor" 2 sp_divisor) {f : Addr} (cdv : Value) (A : Around) (outer : List Env) (s : Shared) (H : Hp) (E : XK) (hr : Room 1 (A.deeper (envOfC "way_of" (defScope S_way_of) s.heap.objs.size f cdv))) :
    DSs (cxOf CX0 P w K mg base N_way_of "way_of" (defScope S_way_of) f cdv A outer s H E).nox (defBody S_way_of) t_way_of :=
  (dss_cons (ds_set 2 sc_way_of.nd (de_call C_divisor hr (by omega) (da_cons (de_var 0) (da_cons (de_var 1) da_nil))))
    (dss_cons (ds_if (dt_eq (de_var 2) de_int) (dss_one ds_never) dss_nil)
    (dss_one (ds_ret (de_tup (da_cons (de_fdiv (de_var 0) (de_var 2)) (da_cons (de_fdiv (de_var 1) (de_var 2)) da_nil)))))))
theorem walk_along {P : Program} {w : World} {K : PySem.W.Frag} {mg : Str → Option Value} {base : Heap} (C_share : Cal P w K mg base 2 "share" 2 sp_share) {f : Addr} (cdv : Value) (A : Around) (outer : List Env) (s : Shared) (H : Hp) (E : XK) (hr : Room 2 (A.deeper (envOfC "along" (defScope S_along) s.heap.objs.size f cdv))) :
    DSs (cxOf CX0 P w K mg base N_along "along" (defScope S_along) f cdv A outer s H E).nox (defBody S_along) t_along :=
  (dss_cons (ds_asg (de_var 1) (dg_tup rfl (dgs_cons (dg_tup rfl (dgs_cons (dg_name (i := 2) sc_along.nd) (dgs_cons (dg_name (i := 3) sc_along.nd) dgs_nil))) (dgs_cons (dg_tup rfl (dgs_cons (dg_name (i := 4) sc_along.nd) (dgs_cons (dg_name (i := 5) sc_along.nd) dgs_nil))) dgs_nil))))
    (dss_one (ds_ret (de_call C_share hr (by omega) (da_cons (de_add (de_mul (de_mul (de_ixN (k := 0) (de_var 0)) (de_var 2)) (de_var 5)) (de_mul (de_mul (de_ixN (k := 1) (de_var 0)) (de_var 4)) (de_var 3))) (da_cons (de_mul (de_var 3) (de_var 5)) da_nil))))))
theorem walk_spot_minus {P : Program} {w : World} {K : PySem.W.Frag} {mg : Str → Option Value} {base : Heap} (C_minus : Cal P w K mg base 3 "minus" 2 sp_minus) (m_tuple : mg "tuple" = none) (m_zip : mg "zip" = none) {f : Addr} (cdv : Value) (A : Around) (outer : List Env) (s : Shared) (H : Hp) (E : XK) (hr : Room 3 (A.deeper (envOfC "spot_minus" (defScope S_spot_minus) s.heap.objs.size f cdv))) :
    DSs (cxOf CX0 P w K mg base N_spot_minus "spot_minus" (defScope S_spot_minus) f cdv A outer s H E).nox (defBody S_spot_minus) t_spot_minus :=
  (dss_one (ds_ret (de_tuple m_tuple (da_cons (de_lc (own := [("a", 2), ("b", 3)]) rfl sc_spot_minus.nd (di_zip rfl m_zip (de_var 0) (de_var 1)) (blkOk_by (N := N_spot_minus) (sc := defScope S_spot_minus) (by decide +kernel)) (by decide) (fun _ _ _ _ _ => (dg_tup rfl (dgs_cons (dg_name (i := 2) sc_spot_minus.nd) (dgs_cons (dg_name (i := 3) sc_spot_minus.nd) dgs_nil)))) (fun _ _ _ _ _ => dts_nil) (fun _ _ _ _ _ => (de_call C_minus hr (by omega) (da_cons (de_var 2) (da_cons (de_var 3) da_nil))))) da_nil))))
theorem walk_sides {P : Program} {w : World} {K : PySem.W.Frag} {mg : Str → Option Value} {base : Heap} (C_way_of : Cal P w K mg base 2 "way_of" 2 sp_way_of) (m_tuple : mg "tuple" = none) (m_zip : mg "zip" = none) {f : Addr} (cdv : Value) (A : Around) (outer : List Env) (s : Shared) (H : Hp) (E : XK) (hr : Room 2 (A.deeper (envOfC "sides" (defScope S_sides) s.heap.objs.size f cdv))) :
    DSs (cxOf CX0 P w K mg base N_sides "sides" (defScope S_sides) f cdv A outer s H E).nox (defBody S_sides) t_sides :=
  (dss_cons (ds_star 1 2 rfl sc_sides.nd (de_var 0))
    (dss_cons (ds_own 3 sc_sides.nd)
    (dss_cons (ds_for PassesOwn.never rfl (di_zip rfl m_zip (de_var 0) (de_plus (de_var 2) (de_lst (da_cons (de_var 1) da_nil)))) (dg_tup rfl (dgs_cons (dg_tup rfl (dgs_cons (dg_name (i := 4) sc_sides.nd) (dgs_cons (dg_name (i := 5) sc_sides.nd) dgs_nil))) (dgs_cons (dg_tup rfl (dgs_cons (dg_name (i := 6) sc_sides.nd) (dgs_cons (dg_name (i := 7) sc_sides.nd) dgs_nil))) dgs_nil))) (dss_one (ds_app 3 (de_call C_way_of hr (by omega) (da_cons (de_sub (de_var 7) (de_var 5)) (da_cons (de_sub (de_var 4) (de_var 6)) da_nil))))))
    (dss_one (ds_ret (de_tuple m_tuple (da_cons (de_frz 3) da_nil)))))))
theorem walk_reach {P : Program} {w : World} {K : PySem.W.Frag} {mg : Str → Option Value} {base : Heap} (m_max : mg "max" = none) {f : Addr} (cdv : Value) (A : Around) (outer : List Env) (s : Shared) (H : Hp) (E : XK) (hr : Room 0 (A.deeper (envOfC "reach" (defScope S_reach) s.heap.objs.size f cdv))) :
    DSs (cxOf CX0 P w K mg base N_reach "reach" (defScope S_reach) f cdv A outer s H E).nox (defBody S_reach) t_reach :=
  (dss_one (ds_ret (de_max rfl m_max (da_cons (de_lc (own := [("x", 2), ("y", 3)]) rfl sc_reach.nd (di_tup (de_var 0)) (blkOk_by (N := N_reach) (sc := defScope S_reach) (by decide +kernel)) (by decide) (fun _ _ _ _ _ => (dg_tup rfl (dgs_cons (dg_name (i := 2) sc_reach.nd) (dgs_cons (dg_name (i := 3) sc_reach.nd) dgs_nil)))) (fun _ _ _ _ _ => dts_nil) (fun _ _ _ _ _ => (de_add (de_mul (de_ixN (k := 0) (de_var 1)) (de_var 2)) (de_mul (de_ixN (k := 1) (de_var 1)) (de_var 3))))) da_nil))))
theorem walk_turned_way {P : Program} {w : World} {K : PySem.W.Frag} {mg : Str → Option Value} {base : Heap}  {f : Addr} (cdv : Value) (A : Around) (outer : List Env) (s : Shared) (H : Hp) (E : XK) (hr : Room 0 (A.deeper (envOfC "turned_way" (defScope S_turned_way) s.heap.objs.size f cdv))) :
    DSs (cxOf CX0 P w K mg base N_turned_way "turned_way" (defScope S_turned_way) f cdv A outer s H E).nox (defBody S_turned_way) t_turned_way :=
  (dss_one (ds_ret (de_tup (da_cons (de_neg (de_ixN (k := 0) (de_var 0))) (da_cons (de_neg (de_ixN (k := 1) (de_var 0))) da_nil)))))
theorem walk_rate {P : Program} {w : World} {K : PySem.W.Frag} {mg : Str → Option Value} {base : Heap} (C_along : Cal P w K mg base 3 "along" 2 sp_along) (C_spot_minus : Cal P w K mg base 4 "spot_minus" 2 sp_spot_minus) {f : Addr} (cdv : Value) (A : Around) (outer : List Env) (s : Shared) (H : Hp) (E : XK) (hr : Room 4 (A.deeper (envOfC "rate" (defScope S_rate) s.heap.objs.size f cdv))) :
    DSs (cxOf CX0 P w K mg base N_rate "rate" (defScope S_rate) f cdv A outer s H E).nox (defBody S_rate) t_rate :=
  (dss_one (ds_ret (de_call C_along hr (by omega) (da_cons (de_var 2) (da_cons (de_call C_spot_minus hr (by omega) (da_cons (de_ixN (k := 5) (de_var 1)) (da_cons (de_ixN (k := 5) (de_var 0)) da_nil))) da_nil)))))
theorem walk_gap {P : Program} {w : World} {K : PySem.W.Frag} {mg : Str → Option Value} {base : Heap} (C_along : Cal P w K mg base 3 "along" 2 sp_along) (C_minus : Cal P w K mg base 3 "minus" 2 sp_minus) (C_plus : Cal P w K mg base 3 "plus" 2 sp_plus) (C_rate : Cal P w K mg base 5 "rate" 3 sp_rate) (C_reach : Cal P w K mg base 1 "reach" 2 sp_reach) (C_spot_minus : Cal P w K mg base 4 "spot_minus" 2 sp_spot_minus) (C_times : Cal P w K mg base 3 "times" 2 sp_times) (C_turned_way : Cal P w K mg base 1 "turned_way" 1 sp_turned_way) {f : Addr} (cdv : Value) (A : Around) (outer : List Env) (s : Shared) (H : Hp) (E : XK) (hr : Room 5 (A.deeper (envOfC "gap" (defScope S_gap) s.heap.objs.size f cdv))) :
    DSs (cxOf CX0 P w K mg base N_gap "gap" (defScope S_gap) f cdv A outer s H E).nox (defBody S_gap) t_gap :=
  (dss_cons (ds_set 4 sc_gap.nd (de_call C_along hr (by omega) (da_cons (de_var 2) (da_cons (de_call C_spot_minus hr (by omega) (da_cons (de_ixN (k := 4) (de_var 1)) (da_cons (de_ixN (k := 4) (de_var 0)) da_nil))) da_nil))))
    (dss_cons (ds_set 5 sc_gap.nd (de_add (de_call C_reach hr (by omega) (da_cons (de_ixN (k := 1) (de_var 0)) (da_cons (de_var 2) da_nil))) (de_call C_reach hr (by omega) (da_cons (de_ixN (k := 1) (de_var 1)) (da_cons (de_call C_turned_way hr (by omega) (da_cons (de_var 2) da_nil)) da_nil)))))
    (dss_one (ds_ret (de_call C_plus hr (by omega) (da_cons (de_call C_minus hr (by omega) (da_cons (de_var 4) (da_cons (de_tup (da_cons (de_var 5) (da_cons de_int da_nil))) da_nil))) (da_cons (de_call C_times hr (by omega) (da_cons (de_call C_rate hr (by omega) (da_cons (de_var 0) (da_cons (de_var 1) (da_cons (de_var 2) da_nil)))) (da_cons (de_var 3) da_nil))) da_nil)))))))
theorem walk_upright_ways {P : Program} {w : World} {K : PySem.W.Frag} {mg : Str → Option Value} {base : Heap} (C_spot_minus : Cal P w K mg base 4 "spot_minus" 2 sp_spot_minus) (C_way_of : Cal P w K mg base 2 "way_of" 2 sp_way_of) {f : Addr} (cdv : Value) (A : Around) (outer : List Env) (s : Shared) (H : Hp) (E : XK) (hr : Room 4 (A.deeper (envOfC "upright_ways" (defScope S_upright_ways) s.heap.objs.size f cdv))) :
    DSs (cxOf CX0 P w K mg base N_upright_ways "upright_ways" (defScope S_upright_ways) f cdv A outer s H E).nox (defBody S_upright_ways) t_upright_ways :=
  (dss_cons (ds_asg (de_call C_spot_minus hr (by omega) (da_cons (de_ixN (k := 5) (de_var 1)) (da_cons (de_ixN (k := 5) (de_var 0)) da_nil))) (dg_tup rfl (dgs_cons (dg_tup rfl (dgs_cons (dg_name (i := 2) sc_upright_ways.nd) (dgs_cons (dg_name (i := 3) sc_upright_ways.nd) dgs_nil))) (dgs_cons (dg_tup rfl (dgs_cons (dg_name (i := 4) sc_upright_ways.nd) (dgs_cons (dg_name (i := 5) sc_upright_ways.nd) dgs_nil))) dgs_nil))))
    (dss_cons (ds_if (PW.pt (dw_and (dt_eq (de_var 2) de_int) (dw_and1 (dt_eq (de_var 4) de_int)))) (dss_one (ds_ret (de_lst da_nil))) dss_nil)
    (dss_cons (ds_asg (de_call C_way_of hr (by omega) (da_cons (de_mul (de_neg (de_var 4)) (de_var 3)) (da_cons (de_mul (de_var 2) (de_var 5)) da_nil))) (dg_tup rfl (dgs_cons (dg_name (i := 6) sc_upright_ways.nd) (dgs_cons (dg_name (i := 7) sc_upright_ways.nd) dgs_nil))))
    (dss_one (ds_ret (de_lst (da_cons (de_tup (da_cons (de_var 6) (da_cons (de_var 7) da_nil))) (da_cons (de_tup (da_cons (de_neg (de_var 6)) (da_cons (de_neg (de_var 7)) da_nil))) da_nil))))))))
theorem walk_entered {P : Program} {w : World} {K : PySem.W.Frag} {mg : Str → Option Value} {base : Heap} (C_order : Cal P w K mg base 1 "order" 2 sp_order) (C_over : Cal P w K mg base 3 "over" 2 sp_over) {f : Addr} (cdv : Value) (A : Around) (outer : List Env) (s : Shared) (H : Hp) (E : XK) (hr : Room 3 (A.deeper (envOfC "entered" (defScope S_entered) s.heap.objs.size f cdv))) :
    DSs (cxOf CX0 P w K mg base N_entered "entered" (defScope S_entered) f cdv A outer s H E).nox (defBody S_entered) t_entered :=
  (dss_cons (ds_set 1 sc_entered.nd de_non)
    (dss_cons (ds_set 2 sc_entered.nd de_non)
    (dss_cons (ds_set 3 sc_entered.nd de_non)
    (dss_cons (ds_for PassesOwn.never rfl (di_lst (de_var 0)) (dg_tup rfl (dgs_cons (dg_name (i := 4) sc_entered.nd) (dgs_cons (dg_name (i := 5) sc_entered.nd) (dgs_cons (dg_name (i := 6) sc_entered.nd) dgs_nil)))) (dss_cons (ds_if (dt_eq (de_ixN (k := 0) (de_var 6)) de_int) (dss_cons (ds_if (dt_ge (de_ixN (k := 0) (de_var 5)) de_int) (dss_one (ds_ret de_non)) dss_nil)
    (dss_one ds_continue)) dss_nil)
    (dss_cons (ds_set 7 sc_entered.nd (de_call C_over hr (by omega) (da_cons (de_tup (da_cons (de_neg (de_ixN (k := 0) (de_var 5))) (da_cons (de_ixN (k := 1) (de_var 5)) da_nil))) (da_cons (de_var 6) da_nil))))
    (dss_one (ds_if (dt_gt (de_ixN (k := 0) (de_var 6)) de_int) (dss_one (ds_if (PW.pt (dw_or (dt_isN (de_var 2) de_non) (dw_or1 (dt_lt (de_call C_order hr (by omega) (da_cons (de_var 7) (da_cons (de_var 2) da_nil))) de_int)))) (dss_one (ds_set 2 sc_entered.nd (de_var 7))) dss_nil)) (dss_one (ds_if (PW.pt (dw_or (dt_isN (de_var 1) de_non) (dw_or1 (dt_gt (de_call C_order hr (by omega) (da_cons (de_var 7) (da_cons (de_var 1) da_nil))) de_int)))) (dss_cons (ds_set 1 sc_entered.nd (de_var 7))
    (dss_one (ds_set 3 sc_entered.nd (de_var 4)))) dss_nil)))))))
    (dss_cons (ds_if (PW.pt (dw_or (dt_isN (de_var 1) de_non) (dw_or (dt_ge (de_call C_order hr (by omega) (da_cons (de_var 1) (da_cons (de_var 2) da_nil))) de_int) (dw_or1 (dt_lt (de_ixN (k := 0) (de_var 1)) de_int))))) (dss_one (ds_ret de_non)) dss_nil)
    (dss_one (ds_ret (de_tup (da_cons (de_var 1) (da_cons (de_var 3) da_nil))))))))))
theorem walk_first {P : Program} {w : World} {K : PySem.W.Frag} {mg : Str → Option Value} {base : Heap} (C_entered : Cal P w K mg base 4 "entered" 1 sp_entered) (C_gap3 : Cal P w K mg base 6 "gap" 3 sp_gap3) (C_names_of : Cal P w K mg base 1 "names_of" 2 sp_names_of) (C_order : Cal P w K mg base 1 "order" 2 sp_order) (C_pair_ways : Cal P w K mg base 4 "pair_ways" 2 sp_pair_ways) (C_plus : Cal P w K mg base 3 "plus" 2 sp_plus) (C_rate : Cal P w K mg base 5 "rate" 3 sp_rate) (C_times : Cal P w K mg base 3 "times" 2 sp_times) (C_upright_ways : Cal P w K mg base 5 "upright_ways" 2 sp_upright_ways) (m_max : mg "max" = none) {f : Addr} (cdv : Value) (A : Around) (outer : List Env) (s : Shared) (H : Hp) (E : XK) (hr : Room 6 (A.deeper (envOfC "first" (defScope S_first) s.heap.objs.size f cdv))) :
    DSs (cxOf CX0 P w K mg base N_first "first" (defScope S_first) f cdv A outer s H E).nox (defBody S_first) t_first :=
  (dss_cons (ds_setLc 3 (own := [("way", 5)]) rfl sc_first.nd (di_tup (de_call C_pair_ways hr (by omega) (da_cons (de_var 0) (da_cons (de_var 1) da_nil)))) (blkOk_by (N := N_first) (sc := defScope S_first) (by decide +kernel)) (by decide) (fun _ _ _ _ _ => (dg_name (i := 5) sc_first.nd)) (fun _ _ _ _ _ => dts_nil) (fun _ _ _ _ _ => (de_tup (da_cons (de_var 5) (da_cons (de_call C_gap3 hr (by omega) (da_cons (de_var 0) (da_cons (de_var 1) (da_cons (de_var 5) da_nil)))) (da_cons (de_call C_rate hr (by omega) (da_cons (de_var 0) (da_cons (de_var 1) (da_cons (de_var 5) da_nil)))) da_nil))))))
    (dss_cons (ds_if (dt_lt (de_max rfl m_max (da_cons (de_lc (own := [("way", 5), ("room", 6), ("speed", 7)]) rfl sc_first.nd (di_lst (de_var 3)) (blkOk_by (N := N_first) (sc := defScope S_first) (by decide +kernel)) (by decide) (fun _ _ _ _ _ => (dg_tup rfl (dgs_cons (dg_name (i := 5) sc_first.nd) (dgs_cons (dg_name (i := 6) sc_first.nd) (dgs_cons (dg_name (i := 7) sc_first.nd) dgs_nil))))) (fun _ _ _ _ _ => dts_nil) (fun _ _ _ _ _ => (de_ixN (k := 0) (de_var 6)))) da_nil)) de_int) dss_never dss_nil)
    (dss_cons (ds_set 4 sc_first.nd (de_call C_entered hr (by omega) (da_cons (de_var 3) da_nil)))
    (dss_cons (ds_if (PW.pt (dw_and (dt_notN (de_var 4) de_non) (dw_and1 (dt_lt (de_call C_order hr (by omega) (da_cons (de_ixN (k := 0) (de_var 4)) (da_cons (de_var 2) da_nil))) de_int)))) (dss_one (ds_ret (de_tup (da_cons de_str (da_cons (de_ixN (k := 0) (de_var 4)) (da_cons (de_ixN (k := 1) (de_var 4)) da_nil)))))) dss_nil)
    (dss_cons (ds_for PassesOwn.never rfl (di_lst (de_var 3)) (dg_tup rfl (dgs_cons (dg_name (i := 5) sc_first.nd) (dgs_cons (dg_name (i := 6) sc_first.nd) (dgs_cons (dg_name (i := 7) sc_first.nd) dgs_nil)))) (dss_one (ds_if (PW.pt (dw_and (dt_ge (de_ixN (k := 0) (de_var 6)) de_int) (dw_and1 (dt_ge (de_ixN (k := 0) (de_call C_plus hr (by omega) (da_cons (de_var 6) (da_cons (de_call C_times hr (by omega) (da_cons (de_var 7) (da_cons (de_var 2) da_nil))) da_nil)))) de_int)))) (dss_one (ds_ret (de_tup (da_cons de_str (da_cons (de_var 5) da_nil))))) dss_nil)))
    (dss_cons (ds_for PassesOwn.never rfl (di_lst (de_call C_upright_ways hr (by omega) (da_cons (de_var 0) (da_cons (de_var 1) da_nil)))) (dg_name (i := 5) sc_first.nd) (dss_one (ds_if (dt_ge (de_ixN (k := 0) (de_call C_gap3 hr (by omega) (da_cons (de_var 0) (da_cons (de_var 1) (da_cons (de_var 5) da_nil))))) de_int) (dss_one (ds_ret (de_tup (da_cons de_str (da_cons (de_var 5) da_nil))))) dss_nil)))
    (dss_one (ds_ret (de_tup (da_cons de_str (da_cons (de_ixN (k := 0) (de_ixN (k := 0) (de_var 3))) da_nil)))))))))))
theorem walk_meets_now {P : Program} {w : World} {K : PySem.W.Frag} {mg : Str → Option Value} {base : Heap} (C_gap : Cal P w K mg base 6 "gap" 4 sp_gap) (C_pair_ways : Cal P w K mg base 4 "pair_ways" 2 sp_pair_ways) (C_rate : Cal P w K mg base 5 "rate" 3 sp_rate) {f : Addr} (cdv : Value) (A : Around) (outer : List Env) (s : Shared) (H : Hp) (E : XK) (hr : Room 6 (A.deeper (envOfC "meets_now" (defScope S_meets_now) s.heap.objs.size f cdv))) :
    DSs (cxOf CX0 P w K mg base N_meets_now "meets_now" (defScope S_meets_now) f cdv A outer s H E).nox (defBody S_meets_now) t_meets_now :=
  (dss_cons (ds_for PassesOwn.never rfl (di_tup (de_call C_pair_ways hr (by omega) (da_cons (de_var 0) (da_cons (de_var 1) da_nil)))) (dg_name (i := 3) sc_meets_now.nd) (dss_cons (ds_set 4 sc_meets_now.nd (de_call C_gap hr (by omega) (da_cons (de_var 0) (da_cons (de_var 1) (da_cons (de_var 3) (da_cons (de_var 2) da_nil))))))
    (dss_one (ds_if (PW.pt (dw_or (dt_gt (de_ixN (k := 0) (de_var 4)) de_int) (dw_or1 (PW.pt (dw_and (dt_eq (de_ixN (k := 0) (de_var 4)) de_int) (dw_and1 (dt_ge (de_ixN (k := 0) (de_call C_rate hr (by omega) (da_cons (de_var 0) (da_cons (de_var 1) (da_cons (de_var 3) da_nil))))) de_int))))))) (dss_one (ds_ret de_bl)) dss_nil))))
    (dss_one (ds_ret de_bl)))
theorem walk_first_held {P : Program} {w : World} {K : PySem.W.Frag} {mg : Str → Option Value} {base : Heap} (C_gap : Cal P w K mg base 6 "gap" 4 sp_gap) (C_gap3 : Cal P w K mg base 6 "gap" 3 sp_gap3) (C_is_share : Cal P w K mg base 2 "is_share" 1 sp_is_share) (C_is_way : Cal P w K mg base 2 "is_way" 1 sp_is_way) (C_meets_now : Cal P w K mg base 7 "meets_now" 3 sp_meets_now) (C_order : Cal P w K mg base 1 "order" 2 sp_order) (C_pair_ways : Cal P w K mg base 4 "pair_ways" 2 sp_pair_ways) (C_rate : Cal P w K mg base 5 "rate" 3 sp_rate) (m_isinstance : mg "isinstance" = none) (m_len : mg "len" = none) (m_tuple : mg "tuple" = none) {f : Addr} (cdv : Value) (A : Around) (outer : List Env) (s : Shared) (H : Hp) (E : XK) (hr : Room 7 (A.deeper (envOfC "first_held" (defScope S_first_held) s.heap.objs.size f cdv))) :
    DSs (cxOf CX0 P w K mg base N_first_held "first_held" (defScope S_first_held) f cdv A outer s H E).nox (defBody S_first_held) t_first_held :=
  (dss_cons (ds_if (PW.pt (dw_or (dt_not (dt_val (de_isiTuple m_isinstance m_tuple (de_var 3)))) (dw_or1 (dt_notIn hr (de_len m_len (da_cons (de_var 3) da_nil)) (de_tup (da_cons de_int (da_cons de_int da_nil))))))) (dss_one (ds_ret de_bl)) dss_nil)
    (dss_cons (ds_if (dt_eq (de_len m_len (da_cons (de_var 3) da_nil)) de_int) (dss_cons (ds_if (PW.pt (dw_or (dt_ne (de_ixN (k := 0) (de_var 3)) de_str) (dw_or1 (dt_not (dt_val (de_call C_is_way hr (by omega) (da_cons (de_ixN (k := 1) (de_var 3)) da_nil))))))) (dss_one (ds_ret de_bl)) dss_nil)
    (dss_one (ds_ret (de_and (de_ge (de_ixN (k := 0) (de_call C_gap3 hr (by omega) (da_cons (de_var 0) (da_cons (de_var 1) (da_cons (de_ixN (k := 1) (de_var 3)) da_nil))))) de_int) (de_one (de_ge (de_ixN (k := 0) (de_call C_gap hr (by omega) (da_cons (de_var 0) (da_cons (de_var 1) (da_cons (de_ixN (k := 1) (de_var 3)) (da_cons (de_var 2) da_nil)))))) de_int)))))) dss_nil)
    (dss_cons (ds_asg (de_var 3) (dg_tup rfl (dgs_cons (dg_name (i := 4) sc_first_held.nd) (dgs_cons (dg_name (i := 5) sc_first_held.nd) (dgs_cons (dg_name (i := 6) sc_first_held.nd) dgs_nil)))))
    (dss_cons (ds_if (PW.pt (dw_or (dt_ne (de_var 4) de_str) (dw_or (dt_not (dt_val (de_call C_is_share hr (by omega) (da_cons (de_var 5) da_nil)))) (dw_or (dt_lt (de_ixN (k := 0) (de_var 5)) de_int) (dw_or1 (dt_ge (de_call C_order hr (by omega) (da_cons (de_var 5) (da_cons (de_var 2) da_nil))) de_int)))))) (dss_one (ds_ret de_bl)) dss_nil)
    (dss_cons (ds_if (PW.pt (dw_or (dt_not (dt_val (de_call C_is_way hr (by omega) (da_cons (de_var 6) da_nil)))) (dw_or1 (dt_notIn hr (de_var 6) (de_call C_pair_ways hr (by omega) (da_cons (de_var 0) (da_cons (de_var 1) da_nil))))))) (dss_one (ds_ret de_bl)) dss_nil)
    (dss_one (ds_ret (de_and (de_eq (de_ixN (k := 0) (de_call C_gap hr (by omega) (da_cons (de_var 0) (da_cons (de_var 1) (da_cons (de_var 6) (da_cons (de_var 5) da_nil)))))) de_int) (de_and (de_lt (de_ixN (k := 0) (de_call C_rate hr (by omega) (da_cons (de_var 0) (da_cons (de_var 1) (da_cons (de_var 6) da_nil))))) de_int) (de_one (de_call C_meets_now hr (by omega) (da_cons (de_var 0) (da_cons (de_var 1) (da_cons (de_var 5) da_nil))))))))))))))
theorem walk_cellL {P : Program} {w : World} {K : PySem.W.Frag} {mg : Str → Option Value} {base : Heap} (m_abs : mg "abs" = none) (m_len : mg "len" = none) {f : Addr} (cdv : Value) (A : Around) (outer : List Env) (s : Shared) (H : Hp) (E : XK) (hr : Room 0 (A.deeper (envOfC "_law_cell" (defScope S_cellL) s.heap.objs.size f cdv))) :
    DSs (cxOf CX0 P w K mg base N_cellL "_law_cell" (defScope S_cellL) f cdv A outer s H E).nox (defBody S_cellL) t_cellL :=
  (dss_cons (ds_if (dt_eq (de_len m_len (da_cons (de_var 0) da_nil)) de_int) (dss_one (ds_ret (de_add (de_mul de_int (de_var 1)) de_int))) dss_nil)
    (dss_one (ds_ret (de_abs m_abs (da_cons (de_ix (de_var 0) (de_mod (de_var 1) (de_len m_len (da_cons (de_var 0) da_nil)))) da_nil)))))
theorem walk_longL {P : Program} {w : World} {K : PySem.W.Frag} {mg : Str → Option Value} {base : Heap} (C_takeL : Cal P w K mg base 2 "_law_take" 2 sp_takeL) (m_range : mg "range" = none) {f : Addr} (cdv : Value) (A : Around) (outer : List Env) (s : Shared) (H : Hp) (E : XK) (hr : Room 2 (A.deeper (envOfC "_law_long" (defScope S_longL) s.heap.objs.size f cdv))) :
    DSs (cxOf CX0 P w K mg base N_longL "_law_long" (defScope S_longL) f cdv A outer s H E).nox (defBody S_longL) t_longL :=
  (dss_cons (ds_set 2 sc_longL.nd de_int)
    (dss_cons (ds_for PassesOwn.never rfl (di_range m_range (de_var 1)) (dg_name (i := 3) sc_longL.nd) (dss_one (ds_set 2 sc_longL.nd (de_add (de_mul (de_var 2) de_int) (de_call C_takeL hr (by omega) (da_cons (de_var 0) (da_cons de_int da_nil)))))))
    (dss_one (ds_ret (de_var 2)))))
theorem walk_gcdL {P : Program} {w : World} {K : PySem.W.Frag} {mg : Str → Option Value} {base : Heap} (m_abs : mg "abs" = none) {f : Addr} (cdv : Value) (A : Around) (outer : List Env) (s : Shared) (H : Hp) (E : XK) (hr : Room 0 (A.deeper (envOfC "_law_gcd" (defScope S_gcdL) s.heap.objs.size f cdv))) :
    DSs (cxOf CX0 P w K mg base N_gcdL "_law_gcd" (defScope S_gcdL) f cdv A outer s H E).nox (defBody S_gcdL) t_gcdL :=
  (dss_cons (ds_set 0 sc_gcdL.nd (de_abs m_abs (da_cons (de_var 0) da_nil)))
    (dss_cons (ds_set 1 sc_gcdL.nd (de_abs m_abs (da_cons (de_var 1) da_nil)))
    (dss_cons (ds_while PassesOwn.never (dt_gt (de_var 1) de_int) (dss_cons (ds_set 2 sc_gcdL.nd (de_mod (de_var 0) (de_var 1)))
    (dss_cons (ds_set 0 sc_gcdL.nd (de_var 1))
    (dss_one (ds_set 1 sc_gcdL.nd (de_var 2))))))
    (dss_one (ds_ret (de_var 0))))))
theorem walk_shareL {P : Program} {w : World} {K : PySem.W.Frag} {mg : Str → Option Value} {base : Heap} (C_gcdL : Cal P w K mg base 1 "_law_gcd" 2 sp_gcdL) {f : Addr} (cdv : Value) (A : Around) (outer : List Env) (s : Shared) (H : Hp) (E : XK) (hr : Room 1 (A.deeper (envOfC "_law_share" (defScope S_shareL) s.heap.objs.size f cdv))) :
    DSs (cxOf CX0 P w K mg base N_shareL "_law_share" (defScope S_shareL) f cdv A outer s H E).nox (defBody S_shareL) t_shareL :=
  (dss_cons (ds_set 2 sc_shareL.nd (de_call C_gcdL hr (by omega) (da_cons (de_var 0) (da_cons (de_var 1) da_nil))))
    (dss_one (ds_ret (de_tup (da_cons (de_fdiv (de_var 0) (de_var 2)) (da_cons (de_fdiv (de_var 1) (de_var 2)) da_nil))))))
theorem walk_plusL {P : Program} {w : World} {K : PySem.W.Frag} {mg : Str → Option Value} {base : Heap}  {f : Addr} (cdv : Value) (A : Around) (outer : List Env) (s : Shared) (H : Hp) (E : XK) (hr : Room 0 (A.deeper (envOfC "_law_plus" (defScope S_plusL) s.heap.objs.size f cdv))) :
    DSs (cxOf CX0 P w K mg base N_plusL "_law_plus" (defScope S_plusL) f cdv A outer s H E).nox (defBody S_plusL) t_plusL :=
  (dss_one (ds_ret (de_tup (da_cons (de_add (de_mul (de_ixN (k := 0) (de_var 0)) (de_ixN (k := 1) (de_var 1))) (de_mul (de_ixN (k := 0) (de_var 1)) (de_ixN (k := 1) (de_var 0)))) (da_cons (de_mul (de_ixN (k := 1) (de_var 0)) (de_ixN (k := 1) (de_var 1))) da_nil)))))
theorem walk_timesL {P : Program} {w : World} {K : PySem.W.Frag} {mg : Str → Option Value} {base : Heap}  {f : Addr} (cdv : Value) (A : Around) (outer : List Env) (s : Shared) (H : Hp) (E : XK) (hr : Room 0 (A.deeper (envOfC "_law_times" (defScope S_timesL) s.heap.objs.size f cdv))) :
    DSs (cxOf CX0 P w K mg base N_timesL "_law_times" (defScope S_timesL) f cdv A outer s H E).nox (defBody S_timesL) t_timesL :=
  (dss_one (ds_ret (de_tup (da_cons (de_mul (de_ixN (k := 0) (de_var 0)) (de_ixN (k := 0) (de_var 1))) (da_cons (de_mul (de_ixN (k := 1) (de_var 0)) (de_ixN (k := 1) (de_var 1))) da_nil)))))
theorem walk_spotL {P : Program} {w : World} {K : PySem.W.Frag} {mg : Str → Option Value} {base : Heap} (C_shareL : Cal P w K mg base 2 "_law_share" 2 sp_shareL) {f : Addr} (cdv : Value) (A : Around) (outer : List Env) (s : Shared) (H : Hp) (E : XK) (hr : Room 2 (A.deeper (envOfC "_law_spot" (defScope S_spotL) s.heap.objs.size f cdv))) :
    DSs (cxOf CX0 P w K mg base N_spotL "_law_spot" (defScope S_spotL) f cdv A outer s H E).nox (defBody S_spotL) t_spotL :=
  (dss_one (ds_ret (de_tup (da_cons (de_call C_shareL hr (by omega) (da_cons (de_ixN (k := 0) (de_ixN (k := 0) (de_var 0))) (da_cons (de_ixN (k := 1) (de_ixN (k := 0) (de_var 0))) da_nil))) (da_cons (de_call C_shareL hr (by omega) (da_cons (de_ixN (k := 0) (de_ixN (k := 1) (de_var 0))) (da_cons (de_ixN (k := 1) (de_ixN (k := 1) (de_var 0))) da_nil))) da_nil)))))
theorem walk_spot_plusL {P : Program} {w : World} {K : PySem.W.Frag} {mg : Str → Option Value} {base : Heap} (C_plusL : Cal P w K mg base 1 "_law_plus" 2 sp_plusL) {f : Addr} (cdv : Value) (A : Around) (outer : List Env) (s : Shared) (H : Hp) (E : XK) (hr : Room 1 (A.deeper (envOfC "_law_spot_plus" (defScope S_spot_plusL) s.heap.objs.size f cdv))) :
    DSs (cxOf CX0 P w K mg base N_spot_plusL "_law_spot_plus" (defScope S_spot_plusL) f cdv A outer s H E).nox (defBody S_spot_plusL) t_spot_plusL :=
  (dss_one (ds_ret (de_tup (da_cons (de_call C_plusL hr (by omega) (da_cons (de_ixN (k := 0) (de_var 0)) (da_cons (de_ixN (k := 0) (de_var 1)) da_nil))) (da_cons (de_call C_plusL hr (by omega) (da_cons (de_ixN (k := 1) (de_var 0)) (da_cons (de_ixN (k := 1) (de_var 1)) da_nil))) da_nil)))))
theorem walk_spot_timesL {P : Program} {w : World} {K : PySem.W.Frag} {mg : Str → Option Value} {base : Heap} (C_timesL : Cal P w K mg base 1 "_law_times" 2 sp_timesL) {f : Addr} (cdv : Value) (A : Around) (outer : List Env) (s : Shared) (H : Hp) (E : XK) (hr : Room 1 (A.deeper (envOfC "_law_spot_times" (defScope S_spot_timesL) s.heap.objs.size f cdv))) :
    DSs (cxOf CX0 P w K mg base N_spot_timesL "_law_spot_times" (defScope S_spot_timesL) f cdv A outer s H E).nox (defBody S_spot_timesL) t_spot_timesL :=
  (dss_one (ds_ret (de_tup (da_cons (de_call C_timesL hr (by omega) (da_cons (de_ixN (k := 0) (de_var 0)) (da_cons (de_var 1) da_nil))) (da_cons (de_call C_timesL hr (by omega) (da_cons (de_ixN (k := 1) (de_var 0)) (da_cons (de_var 1) da_nil))) da_nil)))))
theorem walk_leftL {P : Program} {w : World} {K : PySem.W.Frag} {mg : Str → Option Value} {base : Heap}  {f : Addr} (cdv : Value) (A : Around) (outer : List Env) (s : Shared) (H : Hp) (E : XK) (hr : Room 0 (A.deeper (envOfC "_law_left" (defScope S_leftL) s.heap.objs.size f cdv))) :
    DSs (cxOf CX0 P w K mg base N_leftL "_law_left" (defScope S_leftL) f cdv A outer s H E).nox (defBody S_leftL) t_leftL :=
  (dss_one (ds_ret (de_sub (de_mul (de_sub (de_ixN (k := 0) (de_var 1)) (de_ixN (k := 0) (de_var 0))) (de_sub (de_ixN (k := 1) (de_var 2)) (de_ixN (k := 1) (de_var 0)))) (de_mul (de_sub (de_ixN (k := 1) (de_var 1)) (de_ixN (k := 1) (de_var 0))) (de_sub (de_ixN (k := 0) (de_var 2)) (de_ixN (k := 0) (de_var 0)))))))
theorem walk_halfL {P : Program} {w : World} {K : PySem.W.Frag} {mg : Str → Option Value} {base : Heap} (C_leftL : Cal P w K mg base 1 "_law_left" 3 sp_leftL) (m_len : mg "len" = none) {f : Addr} (cdv : Value) (A : Around) (outer : List Env) (s : Shared) (H : Hp) (E : XK) (hr : Room 1 (A.deeper (envOfC "_law_half" (defScope S_halfL) s.heap.objs.size f cdv))) :
    DSs (cxOf CX0 P w K mg base N_halfL "_law_half" (defScope S_halfL) f cdv A outer s H E).nox (defBody S_halfL) t_halfL :=
  (dss_cons (ds_set 1 sc_halfL.nd (de_lst da_nil))
    (dss_cons (ds_for PassesOwn.never rfl (di_lst (de_var 0)) (dg_name (i := 2) sc_halfL.nd) (dss_cons (ds_while PassesOwn.never (PW.pt (dw_and (dt_gt (de_len m_len (da_cons (de_var 1) da_nil)) de_int) (dw_and1 (dt_le (de_call C_leftL hr (by omega) (da_cons (de_ix (de_var 1) (de_neg de_int)) (da_cons (de_ix (de_var 1) (de_neg de_int)) (da_cons (de_var 2) da_nil)))) de_int)))) (dss_one (ds_set 1 sc_halfL.nd (de_sl (de_var 1) do_none (do_some (de_neg de_int))))))
    (dss_one (ds_set 1 sc_halfL.nd (de_plus (de_var 1) (de_lst (da_cons (de_var 2) da_nil)))))))
    (dss_one (ds_ret (de_sl (de_var 1) do_none (do_some (de_neg de_int)))))))
theorem walk_numberL {P : Program} {w : World} {K : PySem.W.Frag} {mg : Str → Option Value} {base : Heap} (C_longL : Cal P w K mg base 3 "_law_long" 2 sp_longL) (C_takeL : Cal P w K mg base 2 "_law_take" 2 sp_takeL) {f : Addr} (cdv : Value) (A : Around) (outer : List Env) (s : Shared) (H : Hp) (E : XK) (hr : Room 3 (A.deeper (envOfC "_law_number" (defScope S_numberL) s.heap.objs.size f cdv))) :
    DSs (cxOf CX0 P w K mg base N_numberL "_law_number" (defScope S_numberL) f cdv A outer s H E).nox (defBody S_numberL) t_numberL :=
  (dss_cons (ds_if (dt_lt (de_var 1) de_int) (dss_one (ds_ret (de_sub (de_call C_takeL hr (by omega) (da_cons (de_var 0) (da_cons (de_add (de_mul de_int (de_var 1)) de_int) da_nil))) (de_var 1)))) dss_nil)
    (dss_one (ds_ret (de_sub (de_mod (de_call C_longL hr (by omega) (da_cons (de_var 0) (da_cons de_int da_nil))) (de_add (de_mul de_int (de_var 1)) de_int)) (de_var 1)))))
theorem walk_eightL {P : Program} {w : World} {K : PySem.W.Frag} {mg : Str → Option Value} {base : Heap} (C_numberL : Cal P w K mg base 4 "_law_number" 2 sp_numberL) (m_abs : mg "abs" = none) (m_range : mg "range" = none) (m_tuple : mg "tuple" = none) {f : Addr} (cdv : Value) (A : Around) (outer : List Env) (s : Shared) (H : Hp) (E : XK) (hr : Room 4 (A.deeper (envOfC "_law_eight" (defScope S_eightL) s.heap.objs.size f cdv))) :
    DSs (cxOf CX0 P w K mg base N_eightL "_law_eight" (defScope S_eightL) f cdv A outer s H E).nox (defBody S_eightL) t_eightL :=
  (dss_cons (ds_par 2 3 rfl sc_eightL.nd (da_cons (de_add (de_mul de_int (de_var 1)) de_int) (da_cons (de_add (de_mul de_int (de_var 1)) de_int) da_nil)))
    (dss_cons (ds_setLc 4 (own := [("_law_turn", 6)]) rfl sc_eightL.nd (di_range m_range de_int) (blkOk_by (N := N_eightL) (sc := defScope S_eightL) (by decide +kernel)) (by decide) (fun _ _ _ _ _ => (dg_name (i := 6) sc_eightL.nd)) (fun _ _ _ _ _ => dts_nil) (fun _ _ _ _ _ => (de_add de_int (de_mod (de_abs m_abs (da_cons (de_call C_numberL hr (by omega) (da_cons (de_var 0) (da_cons (de_var 1) da_nil))) da_nil)) (de_var 1)))))
    (dss_cons (ds_set 5 sc_eightL.nd (de_lst (da_cons (de_tup (da_cons de_int (da_cons (de_ixN (k := 0) (de_var 4)) da_nil))) (da_cons (de_tup (da_cons (de_ixN (k := 1) (de_var 4)) (da_cons de_int da_nil))) (da_cons (de_tup (da_cons (de_sub (de_var 2) (de_ixN (k := 2) (de_var 4))) (da_cons de_int da_nil))) (da_cons (de_tup (da_cons (de_var 2) (da_cons (de_ixN (k := 3) (de_var 4)) da_nil))) da_nil))))))
    (dss_one (ds_ret (de_tuple m_tuple (da_cons (de_plus (de_var 5) (de_lst (da_cons (de_tup (da_cons (de_var 2) (da_cons (de_sub (de_var 3) (de_ixN (k := 4) (de_var 4))) da_nil))) (da_cons (de_tup (da_cons (de_sub (de_var 2) (de_ixN (k := 5) (de_var 4))) (da_cons (de_var 3) da_nil))) (da_cons (de_tup (da_cons (de_ixN (k := 6) (de_var 4)) (da_cons (de_var 3) da_nil))) (da_cons (de_tup (da_cons de_int (da_cons (de_sub (de_var 3) (de_ixN (k := 7) (de_var 4))) da_nil))) da_nil)))))) da_nil)))))))
theorem walk_shapeL {P : Program} {w : World} {K : PySem.W.Frag} {mg : Str → Option Value} {base : Heap} (C_eightL : Cal P w K mg base 5 "_law_eight" 2 sp_eightL) (C_halfL : Cal P w K mg base 2 "_law_half" 1 sp_halfL) (C_numberL : Cal P w K mg base 4 "_law_number" 2 sp_numberL) (C_takeL : Cal P w K mg base 2 "_law_take" 2 sp_takeL) (m_abs : mg "abs" = none) (m_len : mg "len" = none) (m_range : mg "range" = none) (m_sorted : mg "sorted" = none) (m_tuple : mg "tuple" = none) {f : Addr} (cdv : Value) (A : Around) (outer : List Env) (s : Shared) (H : Hp) (E : XK) (hr : Room 5 (A.deeper (envOfC "_law_shape" (defScope S_shapeL) s.heap.objs.size f cdv))) :
    DSs (cxOf CX0 P w K mg base N_shapeL "_law_shape" (defScope S_shapeL) f cdv A outer s H E).nox (defBody S_shapeL) t_shapeL :=
  (dss_cons (ds_set 2 sc_shapeL.nd (de_call C_takeL hr (by omega) (da_cons (de_var 0) (da_cons de_int da_nil))))
    (dss_cons (ds_if (dt_eq (de_var 2) de_int) (dss_cons (ds_par 6 7 rfl sc_shapeL.nd (da_cons (de_neg (de_abs m_abs (da_cons (de_call C_numberL hr (by omega) (da_cons (de_var 0) (da_cons (de_var 1) da_nil))) da_nil))) (da_cons (de_neg (de_abs m_abs (da_cons (de_call C_numberL hr (by omega) (da_cons (de_var 0) (da_cons (de_var 1) da_nil))) da_nil))) da_nil)))
    (dss_cons (ds_par 8 9 rfl sc_shapeL.nd (da_cons (de_add de_int (de_abs m_abs (da_cons (de_call C_numberL hr (by omega) (da_cons (de_var 0) (da_cons (de_sub (de_var 1) de_int) da_nil))) da_nil))) (da_cons (de_add de_int (de_abs m_abs (da_cons (de_call C_numberL hr (by omega) (da_cons (de_var 0) (da_cons (de_sub (de_var 1) de_int) da_nil))) da_nil))) da_nil)))
    (dss_one (ds_ret (de_tup (da_cons (de_tup (da_cons (de_var 6) (da_cons (de_var 7) da_nil))) (da_cons (de_tup (da_cons (de_add (de_var 6) (de_var 8)) (da_cons (de_var 7) da_nil))) (da_cons (de_tup (da_cons (de_add (de_var 6) (de_var 8)) (da_cons (de_add (de_var 7) (de_var 9)) da_nil))) (da_cons (de_tup (da_cons (de_var 6) (da_cons (de_add (de_var 7) (de_var 9)) da_nil))) da_nil))))))))) dss_nil)
    (dss_cons (ds_if (dt_eq (de_var 2) de_int) (dss_one (ds_ret (de_call C_eightL hr (by omega) (da_cons (de_var 0) (da_cons (de_fdiv (de_var 1) de_int) da_nil))))) dss_nil)
    (dss_cons (ds_set 3 sc_shapeL.nd (de_add de_int (de_call C_takeL hr (by omega) (da_cons (de_var 0) (da_cons de_int da_nil)))))
    (dss_cons (ds_set 4 sc_shapeL.nd (de_sorted m_sorted (da_cons (de_lc (own := [("_law_turn", 10)]) rfl sc_shapeL.nd (di_range m_range (de_var 3)) (blkOk_by (N := N_shapeL) (sc := defScope S_shapeL) (by decide +kernel)) (by decide) (fun _ _ _ _ _ => (dg_name (i := 10) sc_shapeL.nd)) (fun _ _ _ _ _ => dts_nil) (fun _ _ _ _ _ => (de_tup (da_cons (de_call C_numberL hr (by omega) (da_cons (de_var 0) (da_cons (de_var 1) da_nil))) (da_cons (de_call C_numberL hr (by omega) (da_cons (de_var 0) (da_cons (de_var 1) da_nil))) da_nil))))) da_nil)))
    (dss_cons (ds_set 5 sc_shapeL.nd (de_tuple m_tuple (da_cons (de_plus (de_call C_halfL hr (by omega) (da_cons (de_var 4) da_nil)) (de_call C_halfL hr (by omega) (da_cons (de_rev (de_var 4)) da_nil))) da_nil)))
    (dss_cons (ds_if (dt_lt (de_len m_len (da_cons (de_var 5) da_nil)) de_int) (dss_one (ds_ret (de_tup (da_cons (de_tup (da_cons (de_neg de_int) (da_cons de_int da_nil))) (da_cons (de_tup (da_cons de_int (da_cons de_int da_nil))) (da_cons (de_tup (da_cons de_int (da_cons de_int da_nil))) da_nil)))))) dss_nil)
    (dss_one (ds_ret (de_var 5))))))))))
theorem walk_waysL {P : Program} {w : World} {K : PySem.W.Frag} {mg : Str → Option Value} {base : Heap} (C_wayL : Cal P w K mg base 2 "_law_way" 2 sp_wayL) (m_enumerate : mg "enumerate" = none) (m_len : mg "len" = none) {f : Addr} (cdv : Value) (A : Around) (outer : List Env) (s : Shared) (H : Hp) (E : XK) (hr : Room 2 (A.deeper (envOfC "_law_ways" (defScope S_waysL) s.heap.objs.size f cdv))) :
    DSs (cxOf CX0 P w K mg base N_waysL "_law_ways" (defScope S_waysL) f cdv A outer s H E).nox (defBody S_waysL) t_waysL :=
  (dss_cons (ds_own 1 sc_waysL.nd)
    (dss_cons (ds_for PassesOwn.never rfl (di_enum rfl m_enumerate (de_var 0)) (dg_tup rfl (dgs_cons (dg_name (i := 2) sc_waysL.nd) (dgs_cons (dg_name (i := 3) sc_waysL.nd) dgs_nil))) (dss_cons (ds_set 4 sc_waysL.nd (de_ix (de_var 0) (de_mod (de_add (de_var 2) de_int) (de_len m_len (da_cons (de_var 0) da_nil)))))
    (dss_one (ds_app 1 (de_call C_wayL hr (by omega) (da_cons (de_sub (de_ixN (k := 1) (de_var 4)) (de_ixN (k := 1) (de_var 3))) (da_cons (de_sub (de_ixN (k := 0) (de_var 3)) (de_ixN (k := 0) (de_var 4))) da_nil)))))))
    (dss_one (ds_ret (de_var 1)))))
theorem walk_wayL {P : Program} {w : World} {K : PySem.W.Frag} {mg : Str → Option Value} {base : Heap} (C_gcdL : Cal P w K mg base 1 "_law_gcd" 2 sp_gcdL) {f : Addr} (cdv : Value) (A : Around) (outer : List Env) (s : Shared) (H : Hp) (E : XK) (hr : Room 1 (A.deeper (envOfC "_law_way" (defScope S_wayL) s.heap.objs.size f cdv))) :
    DSs (cxOf CX0 P w K mg base N_wayL "_law_way" (defScope S_wayL) f cdv A outer s H E).nox (defBody S_wayL) t_wayL :=
  (dss_cons (ds_set 2 sc_wayL.nd (de_call C_gcdL hr (by omega) (da_cons (de_var 0) (da_cons (de_var 1) da_nil))))
    (dss_one (ds_ret (de_tup (da_cons (de_fdiv (de_var 0) (de_var 2)) (da_cons (de_fdiv (de_var 1) (de_var 2)) da_nil))))))
theorem walk_pair_waysL {P : Program} {w : World} {K : PySem.W.Frag} {mg : Str → Option Value} {base : Heap} (C_waysL : Cal P w K mg base 3 "_law_ways" 1 sp_waysL) (m_sorted : mg "sorted" = none) {f : Addr} (cdv : Value) (A : Around) (outer : List Env) (s : Shared) (H : Hp) (E : XK) (hr : Room 3 (A.deeper (envOfC "_law_pair_ways" (defScope S_pair_waysL) s.heap.objs.size f cdv))) :
    DSs (cxOf CX0 P w K mg base N_pair_waysL "_law_pair_ways" (defScope S_pair_waysL) f cdv A outer s H E).nox (defBody S_pair_waysL) t_pair_waysL :=
  (dss_cons (ds_ownCall 2 sc_pair_waysL.nd C_waysL hr (by omega) (da_cons (de_ixN (k := 1) (de_var 0)) da_nil))
    (dss_cons (ds_for PassesOwn.never rfl (di_lst (de_callF C_waysL hr (by omega) (da_cons (de_ixN (k := 1) (de_var 1)) da_nil))) (dg_name (i := 3) sc_pair_waysL.nd) (dss_one (ds_if (dt_notInOwn 2 hr (de_tup (da_cons (de_neg (de_ixN (k := 0) (de_var 3))) (da_cons (de_neg (de_ixN (k := 1) (de_var 3))) da_nil)))) (dss_one (ds_app 2 (de_tup (da_cons (de_neg (de_ixN (k := 0) (de_var 3))) (da_cons (de_neg (de_ixN (k := 1) (de_var 3))) da_nil))))) dss_nil)))
    (dss_one (ds_ret (de_sorted m_sorted (da_cons (de_frz 2) da_nil))))))
theorem walk_reachL {P : Program} {w : World} {K : PySem.W.Frag} {mg : Str → Option Value} {base : Heap} (m_max : mg "max" = none) {f : Addr} (cdv : Value) (A : Around) (outer : List Env) (s : Shared) (H : Hp) (E : XK) (hr : Room 0 (A.deeper (envOfC "_law_reach" (defScope S_reachL) s.heap.objs.size f cdv))) :
    DSs (cxOf CX0 P w K mg base N_reachL "_law_reach" (defScope S_reachL) f cdv A outer s H E).nox (defBody S_reachL) t_reachL :=
  (dss_one (ds_ret (de_max rfl m_max (da_cons (de_lc (own := [("_law_corner", 2)]) rfl sc_reachL.nd (di_tup (de_var 0)) (blkOk_by (N := N_reachL) (sc := defScope S_reachL) (by decide +kernel)) (by decide) (fun _ _ _ _ _ => (dg_name (i := 2) sc_reachL.nd)) (fun _ _ _ _ _ => dts_nil) (fun _ _ _ _ _ => (de_add (de_mul (de_ixN (k := 0) (de_var 1)) (de_ixN (k := 0) (de_var 2))) (de_mul (de_ixN (k := 1) (de_var 1)) (de_ixN (k := 1) (de_var 2)))))) da_nil))))
theorem walk_betweenL {P : Program} {w : World} {K : PySem.W.Frag} {mg : Str → Option Value} {base : Heap} (C_spot_plusL : Cal P w K mg base 2 "_law_spot_plus" 2 sp_spot_plusL) (C_spot_timesL : Cal P w K mg base 2 "_law_spot_times" 2 sp_spot_timesL) {f : Addr} (cdv : Value) (A : Around) (outer : List Env) (s : Shared) (H : Hp) (E : XK) (hr : Room 2 (A.deeper (envOfC "_law_between" (defScope S_betweenL) s.heap.objs.size f cdv))) :
    DSs (cxOf CX0 P w K mg base N_betweenL "_law_between" (defScope S_betweenL) f cdv A outer s H E).nox (defBody S_betweenL) t_betweenL :=
  (dss_cons (ds_set 3 sc_betweenL.nd (de_call C_spot_plusL hr (by omega) (da_cons (de_ixN (k := 4) (de_var 1)) (da_cons (de_call C_spot_timesL hr (by omega) (da_cons (de_ixN (k := 4) (de_var 0)) (da_cons (de_tup (da_cons (de_neg de_int) (da_cons de_int da_nil))) da_nil))) da_nil))))
    (dss_cons (ds_set 4 sc_betweenL.nd (de_call C_spot_plusL hr (by omega) (da_cons (de_ixN (k := 5) (de_var 1)) (da_cons (de_call C_spot_timesL hr (by omega) (da_cons (de_ixN (k := 5) (de_var 0)) (da_cons (de_tup (da_cons (de_neg de_int) (da_cons de_int da_nil))) da_nil))) da_nil))))
    (dss_cons (ds_set 5 sc_betweenL.nd (de_call C_spot_plusL hr (by omega) (da_cons (de_var 3) (da_cons (de_call C_spot_timesL hr (by omega) (da_cons (de_var 4) (da_cons (de_var 2) da_nil))) da_nil))))
    (dss_one (ds_ret (de_tup (da_cons (de_mul (de_ixN (k := 0) (de_ixN (k := 0) (de_var 5))) (de_ixN (k := 1) (de_ixN (k := 1) (de_var 5)))) (da_cons (de_mul (de_ixN (k := 0) (de_ixN (k := 1) (de_var 5))) (de_ixN (k := 1) (de_ixN (k := 0) (de_var 5)))) (da_cons (de_mul (de_ixN (k := 1) (de_ixN (k := 0) (de_var 5))) (de_ixN (k := 1) (de_ixN (k := 1) (de_var 5)))) da_nil)))))))))
theorem walk_roomL {P : Program} {w : World} {K : PySem.W.Frag} {mg : Str → Option Value} {base : Heap} (C_reachL : Cal P w K mg base 1 "_law_reach" 2 sp_reachL) {f : Addr} (cdv : Value) (A : Around) (outer : List Env) (s : Shared) (H : Hp) (E : XK) (hr : Room 1 (A.deeper (envOfC "_law_room" (defScope S_roomL) s.heap.objs.size f cdv))) :
    DSs (cxOf CX0 P w K mg base N_roomL "_law_room" (defScope S_roomL) f cdv A outer s H E).nox (defBody S_roomL) t_roomL :=
  (dss_cons (ds_set 4 sc_roomL.nd (de_add (de_call C_reachL hr (by omega) (da_cons (de_ixN (k := 1) (de_var 0)) (da_cons (de_var 2) da_nil))) (de_call C_reachL hr (by omega) (da_cons (de_ixN (k := 1) (de_var 1)) (da_cons (de_tup (da_cons (de_neg (de_ixN (k := 0) (de_var 2))) (da_cons (de_neg (de_ixN (k := 1) (de_var 2))) da_nil))) da_nil)))))
    (dss_one (ds_ret (de_sub (de_add (de_mul (de_ixN (k := 0) (de_var 2)) (de_ixN (k := 0) (de_var 3))) (de_mul (de_ixN (k := 1) (de_var 2)) (de_ixN (k := 1) (de_var 3)))) (de_mul (de_var 4) (de_ixN (k := 2) (de_var 3)))))))
theorem walk_roomsL {P : Program} {w : World} {K : PySem.W.Frag} {mg : Str → Option Value} {base : Heap} (C_betweenL : Cal P w K mg base 3 "_law_between" 3 sp_betweenL) (C_pair_waysL : Cal P w K mg base 4 "_law_pair_ways" 2 sp_pair_waysL) (C_roomL : Cal P w K mg base 2 "_law_room" 4 sp_roomL) {f : Addr} (cdv : Value) (A : Around) (outer : List Env) (s : Shared) (H : Hp) (E : XK) (hr : Room 4 (A.deeper (envOfC "_law_rooms" (defScope S_roomsL) s.heap.objs.size f cdv))) :
    DSs (cxOf CX0 P w K mg base N_roomsL "_law_rooms" (defScope S_roomsL) f cdv A outer s H E).nox (defBody S_roomsL) t_roomsL :=
  (dss_cons (ds_set 3 sc_roomsL.nd (de_call C_betweenL hr (by omega) (da_cons (de_var 0) (da_cons (de_var 1) (da_cons (de_var 2) da_nil)))))
    (dss_one (ds_ret (de_lc (own := [("_law_way_here", 4)]) rfl sc_roomsL.nd (di_lst (de_call C_pair_waysL hr (by omega) (da_cons (de_var 0) (da_cons (de_var 1) da_nil)))) (blkOk_by (N := N_roomsL) (sc := defScope S_roomsL) (by decide +kernel)) (by decide) (fun _ _ _ _ _ => (dg_name (i := 4) sc_roomsL.nd)) (fun _ _ _ _ _ => dts_nil) (fun _ _ _ _ _ => (de_call C_roomL hr (by omega) (da_cons (de_var 0) (da_cons (de_var 1) (da_cons (de_var 4) (da_cons (de_var 3) da_nil))))))))))
theorem walk_overL {P : Program} {w : World} {K : PySem.W.Frag} {mg : Str → Option Value} {base : Heap} (C_roomsL : Cal P w K mg base 5 "_law_rooms" 3 sp_roomsL) (m_max : mg "max" = none) {f : Addr} (cdv : Value) (A : Around) (outer : List Env) (s : Shared) (H : Hp) (E : XK) (hr : Room 5 (A.deeper (envOfC "_law_over" (defScope S_overL) s.heap.objs.size f cdv))) :
    DSs (cxOf CX0 P w K mg base N_overL "_law_over" (defScope S_overL) f cdv A outer s H E).nox (defBody S_overL) t_overL :=
  (dss_one (ds_ret (de_lt (de_max rfl m_max (da_cons (de_call C_roomsL hr (by omega) (da_cons (de_var 0) (da_cons (de_var 1) (da_cons (de_var 2) da_nil)))) da_nil)) de_int)))
theorem walk_namesL {P : Program} {w : World} {K : PySem.W.Frag} {mg : Str → Option Value} {base : Heap} (C_takeL : Cal P w K mg base 2 "_law_take" 2 sp_takeL) (m_len : mg "len" = none) (m_range : mg "range" = none) {f : Addr} (cdv : Value) (A : Around) (outer : List Env) (s : Shared) (H : Hp) (E : XK) (hr : Room 2 (A.deeper (envOfC "_law_names" (defScope S_namesL) s.heap.objs.size f cdv))) :
    DSs (cxOf CX0 P w K mg base N_namesL "_law_names" (defScope S_namesL) f cdv A outer s H E).nox (defBody S_namesL) t_namesL :=
  (dss_cons (ds_set 1 sc_namesL.nd de_str)
    (dss_cons (ds_set 2 sc_namesL.nd (de_join de_str (de_lc (own := [("_law_turn", 6)]) rfl sc_namesL.nd (di_range m_range (de_ix (de_lst (da_cons de_int (da_cons de_int (da_cons de_int (da_cons de_int da_nil))))) (de_call C_takeL hr (by omega) (da_cons (de_var 0) (da_cons de_int da_nil))))) (blkOk_by (N := N_namesL) (sc := defScope S_namesL) (by decide +kernel)) (by decide) (fun _ _ _ _ _ => (dg_name (i := 6) sc_namesL.nd)) (fun _ _ _ _ _ => dts_nil) (fun _ _ _ _ _ => (de_ix (de_var 1) (de_call C_takeL hr (by omega) (da_cons (de_var 0) (da_cons de_int da_nil))))))))
    (dss_cons (ds_set 3 sc_namesL.nd (de_call C_takeL hr (by omega) (da_cons (de_var 0) (da_cons (de_add (de_len m_len (da_cons (de_var 2) da_nil)) de_int) da_nil))))
    (dss_cons (ds_set 4 sc_namesL.nd (de_call C_takeL hr (by omega) (da_cons (de_var 0) (da_cons de_int da_nil))))
    (dss_cons (ds_set 5 sc_namesL.nd (de_mod (de_add (de_add (de_var 4) de_int) (de_call C_takeL hr (by omega) (da_cons (de_var 0) (da_cons de_int da_nil)))) de_int))
    (dss_one (ds_ret (de_lst (da_cons (de_plus (de_plus (de_sl (de_var 2) do_none (do_some (de_var 3))) (de_ix (de_var 1) (de_var 4))) (de_sl (de_var 2) (do_some (de_var 3)) do_none)) (da_cons (de_plus (de_plus (de_sl (de_var 2) do_none (do_some (de_var 3))) (de_ix (de_var 1) (de_var 5))) (de_sl (de_var 2) (do_some (de_var 3)) do_none)) da_nil))))))))))
theorem walk_drawnL {P : Program} {w : World} {K : PySem.W.Frag} {mg : Str → Option Value} {base : Heap} (C_longL : Cal P w K mg base 3 "_law_long" 2 sp_longL) (C_shareL : Cal P w K mg base 2 "_law_share" 2 sp_shareL) (C_takeL : Cal P w K mg base 2 "_law_take" 2 sp_takeL) {f : Addr} (cdv : Value) (A : Around) (outer : List Env) (s : Shared) (H : Hp) (E : XK) (hr : Room 3 (A.deeper (envOfC "_law_drawn" (defScope S_drawnL) s.heap.objs.size f cdv))) :
    DSs (cxOf CX0 P w K mg base N_drawnL "_law_drawn" (defScope S_drawnL) f cdv A outer s H E).nox (defBody S_drawnL) t_drawnL :=
  (dss_cons (ds_set 2 sc_drawnL.nd (de_ix (de_lst (da_cons de_int (da_cons de_int (da_cons de_int da_nil)))) (de_var 1)))
    (dss_cons (ds_if (dt_eq (de_var 2) de_int) (dss_one (ds_ret (de_call C_shareL hr (by omega) (da_cons (de_sub (de_call C_takeL hr (by omega) (da_cons (de_var 0) (da_cons de_int da_nil))) de_int) (da_cons (de_add de_int (de_mul (de_call C_takeL hr (by omega) (da_cons (de_var 0) (da_cons de_int da_nil))) (de_call C_takeL hr (by omega) (da_cons (de_var 0) (da_cons de_int da_nil))))) da_nil))))) dss_nil)
    (dss_cons (ds_set 3 sc_drawnL.nd (de_sub de_int (de_mul de_int (de_call C_takeL hr (by omega) (da_cons (de_var 0) (da_cons de_int da_nil))))))
    (dss_one (ds_ret (de_call C_shareL hr (by omega) (da_cons (de_mul (de_var 3) (de_call C_longL hr (by omega) (da_cons (de_var 0) (da_cons (de_var 2) da_nil)))) (da_cons (de_add de_int (de_call C_longL hr (by omega) (da_cons (de_var 0) (da_cons (de_call C_takeL hr (by omega) (da_cons (de_var 0) (da_cons (de_var 2) da_nil))) da_nil)))) da_nil))))))))
theorem walk_rowL {P : Program} {w : World} {K : PySem.W.Frag} {mg : Str → Option Value} {base : Heap} (C_drawnL : Cal P w K mg base 4 "_law_drawn" 2 sp_drawnL) (C_shapeL : Cal P w K mg base 6 "_law_shape" 2 sp_shapeL) (C_spotL : Cal P w K mg base 3 "_law_spot" 1 sp_spotL) (C_spot_timesL : Cal P w K mg base 2 "_law_spot_times" 2 sp_spot_timesL) (C_takeL : Cal P w K mg base 2 "_law_take" 2 sp_takeL) (C_wayL : Cal P w K mg base 2 "_law_way" 2 sp_wayL) {f : Addr} (cdv : Value) (A : Around) (outer : List Env) (s : Shared) (H : Hp) (E : XK) (hr : Room 6 (A.deeper (envOfC "_law_row" (defScope S_rowL) s.heap.objs.size f cdv))) :
    DSs (cxOf CX0 P w K mg base N_rowL "_law_row" (defScope S_rowL) f cdv A outer s H E).nox (defBody S_rowL) t_rowL :=
  (dss_cons (ds_set 5 sc_rowL.nd (de_call C_takeL hr (by omega) (da_cons (de_var 0) (da_cons de_int da_nil))))
    (dss_cons (ds_set 6 sc_rowL.nd (de_call C_shapeL hr (by omega) (da_cons (de_var 0) (da_cons (de_var 2) da_nil))))
    (dss_cons (ds_set 7 sc_rowL.nd (de_tup (da_cons (de_call C_drawnL hr (by omega) (da_cons (de_var 0) (da_cons (de_var 3) da_nil))) (da_cons (de_call C_drawnL hr (by omega) (da_cons (de_var 0) (da_cons (de_var 3) da_nil))) da_nil))))
    (dss_cons (ds_if (PW.pt (dw_and (dt_eq (de_var 5) de_int) (dw_and1 (dt_not (dt_val (de_var 4)))))) (dss_one (ds_ret (de_tup (da_cons (de_var 1) (da_cons (de_var 6) (da_cons de_int (da_cons de_non (da_cons (de_var 7) (da_cons (de_tup (da_cons (de_tup (da_cons de_int (da_cons de_int da_nil))) (da_cons (de_tup (da_cons de_int (da_cons de_int da_nil))) da_nil))) da_nil))))))))) dss_nil)
    (dss_cons (ds_set 8 sc_rowL.nd (de_add de_int (de_mul (de_call C_takeL hr (by omega) (da_cons (de_var 0) (da_cons de_int da_nil))) (de_add de_int (de_call C_takeL hr (by omega) (da_cons (de_var 0) (da_cons de_int da_nil)))))))
    (dss_cons (ds_if (PW.pt (dw_or (dt_ne (de_var 5) de_int) (dw_or1 (dt_val (de_var 4))))) (dss_one (ds_ret (de_tup (da_cons (de_var 1) (da_cons (de_var 6) (da_cons (de_var 8) (da_cons de_non (da_cons (de_var 7) (da_cons (de_tup (da_cons (de_call C_drawnL hr (by omega) (da_cons (de_var 0) (da_cons (de_var 3) da_nil))) (da_cons (de_call C_drawnL hr (by omega) (da_cons (de_var 0) (da_cons (de_var 3) da_nil))) da_nil))) da_nil))))))))) dss_nil)
    (dss_cons (ds_par 9 10 rfl sc_rowL.nd (da_cons (de_add de_int (de_call C_takeL hr (by omega) (da_cons (de_var 0) (da_cons de_int da_nil)))) (da_cons (de_sub (de_call C_takeL hr (by omega) (da_cons (de_var 0) (da_cons de_int da_nil))) de_int) da_nil)))
    (dss_cons (ds_set 11 sc_rowL.nd (de_ix (de_lst (da_cons (de_call C_wayL hr (by omega) (da_cons (de_var 9) (da_cons (de_var 10) da_nil))) (da_cons (de_call C_wayL hr (by omega) (da_cons (de_var 10) (da_cons (de_var 9) da_nil))) da_nil))) (de_call C_takeL hr (by omega) (da_cons (de_var 0) (da_cons de_int da_nil)))))
    (dss_cons (ds_set 12 sc_rowL.nd (de_call C_spotL hr (by omega) (da_cons (de_call C_spot_timesL hr (by omega) (da_cons (de_tup (da_cons (de_tup (da_cons (de_ixN (k := 0) (de_var 11)) (da_cons de_int da_nil))) (da_cons (de_tup (da_cons (de_ixN (k := 1) (de_var 11)) (da_cons de_int da_nil))) da_nil))) (da_cons (de_call C_drawnL hr (by omega) (da_cons (de_var 0) (da_cons (de_var 3) da_nil))) da_nil))) da_nil)))
    (dss_one (ds_ret (de_tup (da_cons (de_var 1) (da_cons (de_var 6) (da_cons (de_var 8) (da_cons (de_var 11) (da_cons (de_var 7) (da_cons (de_var 12) da_nil))))))))))))))))))
theorem walk_pairL {P : Program} {w : World} {K : PySem.W.Frag} {mg : Str → Option Value} {base : Heap} (C_namesL : Cal P w K mg base 3 "_law_names" 1 sp_namesL) (C_rowL : Cal P w K mg base 7 "_law_row" 5 sp_rowL) (C_shareL : Cal P w K mg base 2 "_law_share" 2 sp_shareL) (C_spotL : Cal P w K mg base 3 "_law_spot" 1 sp_spotL) (C_spot_plusL : Cal P w K mg base 2 "_law_spot_plus" 2 sp_spot_plusL) (C_spot_timesL : Cal P w K mg base 2 "_law_spot_times" 2 sp_spot_timesL) (C_takeL : Cal P w K mg base 2 "_law_take" 2 sp_takeL) (m_len : mg "len" = none) {f : Addr} (cdv : Value) (A : Around) (outer : List Env) (s : Shared) (H : Hp) (E : XK) (hr : Room 7 (A.deeper (envOfC "_law_pair" (defScope S_pairL) s.heap.objs.size f cdv))) :
    DSs (cxOf CX0 P w K mg base N_pairL "_law_pair" (defScope S_pairL) f cdv A outer s H E).nox (defBody S_pairL) t_pairL :=
  (dss_cons (ds_par 1 2 rfl sc_pairL.nd (da_cons (de_call C_takeL hr (by omega) (da_cons (de_var 0) (da_cons de_int da_nil))) (da_cons (de_call C_takeL hr (by omega) (da_cons (de_var 0) (da_cons de_int da_nil))) da_nil)))
    (dss_cons (ds_set 3 sc_pairL.nd (de_ix (de_lst (da_cons de_int (da_cons de_int (da_cons de_int (da_cons de_int (da_cons de_int da_nil)))))) (de_call C_takeL hr (by omega) (da_cons (de_var 0) (da_cons de_int da_nil)))))
    (dss_cons (ds_set 4 sc_pairL.nd (de_ix (de_lst (da_cons de_int (da_cons de_int (da_cons de_int (da_cons de_int da_nil))))) (de_call C_takeL hr (by omega) (da_cons (de_var 0) (da_cons de_int da_nil)))))
    (dss_cons (ds_set 5 sc_pairL.nd (de_call C_namesL hr (by omega) (da_cons (de_var 0) da_nil)))
    (dss_cons (ds_set 6 sc_pairL.nd (de_call C_rowL hr (by omega) (da_cons (de_var 0) (da_cons (de_ixN (k := 0) (de_var 5)) (da_cons (de_var 4) (da_cons (de_var 3) (da_cons de_bl da_nil)))))))
    (dss_cons (ds_set 7 sc_pairL.nd (de_call C_rowL hr (by omega) (da_cons (de_var 0) (da_cons (de_ixN (k := 1) (de_var 5)) (da_cons (de_var 4) (da_cons (de_var 3) (da_cons (de_gt (de_var 2) de_int) da_nil)))))))
    (dss_cons (ds_set 8 sc_pairL.nd (de_call C_shareL hr (by omega) (da_cons (de_add de_int (de_call C_takeL hr (by omega) (da_cons (de_var 0) (da_cons de_int da_nil)))) (da_cons (de_add de_int (de_call C_takeL hr (by omega) (da_cons (de_var 0) (da_cons de_int da_nil)))) da_nil))))
    (dss_cons (ds_set 9 sc_pairL.nd (de_call C_takeL hr (by omega) (da_cons (de_var 0) (da_cons (de_len m_len (da_cons (de_ixN (k := 1) (de_var 6)) da_nil)) da_nil))))
    (dss_cons (ds_par 10 11 rfl sc_pairL.nd (da_cons (de_ix (de_ixN (k := 1) (de_var 6)) (de_var 9)) (da_cons (de_ix (de_ixN (k := 1) (de_var 6)) (de_mod (de_add (de_var 9) de_int) (de_len m_len (da_cons (de_ixN (k := 1) (de_var 6)) da_nil)))) da_nil)))
    (dss_cons (ds_set 12 sc_pairL.nd (de_tup (da_cons (de_tup (da_cons (de_sub (de_ixN (k := 0) (de_var 11)) (de_ixN (k := 0) (de_var 10))) (da_cons de_int da_nil))) (da_cons (de_tup (da_cons (de_sub (de_ixN (k := 1) (de_var 11)) (de_ixN (k := 1) (de_var 10))) (da_cons de_int da_nil))) da_nil))))
    (dss_cons (ds_set 13 sc_pairL.nd (de_ix (de_ixN (k := 1) (de_var 7)) (de_call C_takeL hr (by omega) (da_cons (de_var 0) (da_cons (de_len m_len (da_cons (de_ixN (k := 1) (de_var 7)) da_nil)) da_nil)))))
    (dss_cons (ds_set 14 sc_pairL.nd (de_ix (de_lst (da_cons (de_tup (da_cons de_int (da_cons de_int da_nil))) (da_cons (de_tup (da_cons de_int (da_cons de_int da_nil))) (da_cons (de_tup (da_cons de_int (da_cons de_int da_nil))) (da_cons (de_tup (da_cons de_int (da_cons de_int da_nil))) da_nil))))) (de_call C_takeL hr (by omega) (da_cons (de_var 0) (da_cons de_int da_nil)))))
    (dss_cons (ds_set 15 sc_pairL.nd (de_call C_spot_plusL hr (by omega) (da_cons (de_ixN (k := 4) (de_var 6)) (da_cons (de_tup (da_cons (de_tup (da_cons (de_sub (de_ixN (k := 0) (de_var 10)) (de_ixN (k := 0) (de_var 13))) (da_cons de_int da_nil))) (da_cons (de_tup (da_cons (de_sub (de_ixN (k := 1) (de_var 10)) (de_ixN (k := 1) (de_var 13))) (da_cons de_int da_nil))) da_nil))) da_nil))))
    (dss_cons (ds_set 15 sc_pairL.nd (de_call C_spot_plusL hr (by omega) (da_cons (de_var 15) (da_cons (de_call C_spot_timesL hr (by omega) (da_cons (de_var 12) (da_cons (de_var 14) da_nil))) da_nil))))
    (dss_cons (ds_par 16 17 rfl sc_pairL.nd (da_cons (de_ixN (k := 4) (de_var 7)) (da_cons (de_ixN (k := 5) (de_var 7)) da_nil)))
    (dss_cons (ds_if (dt_gt (de_var 1) de_int) (dss_cons (ds_set 18 sc_pairL.nd (de_lst (da_cons (de_tup (da_cons de_int (da_cons de_int da_nil))) (da_cons (de_tup (da_cons de_int (da_cons de_int da_nil))) (da_cons (de_tup (da_cons de_int (da_cons de_int da_nil))) (da_cons (de_tup (da_cons (de_neg de_int) (da_cons de_int da_nil))) da_nil))))))
    (dss_one (ds_set 16 sc_pairL.nd (de_call C_spotL hr (by omega) (da_cons (de_call C_spot_plusL hr (by omega) (da_cons (de_var 15) (da_cons (de_tup (da_cons (de_ix (de_var 18) (de_call C_takeL hr (by omega) (da_cons (de_var 0) (da_cons de_int da_nil)))) (da_cons (de_ix (de_var 18) (de_call C_takeL hr (by omega) (da_cons (de_var 0) (da_cons de_int da_nil)))) da_nil))) da_nil))) da_nil))))) dss_nil)
    (dss_cons (ds_if (dt_eq (de_var 2) de_int) (dss_one (ds_set 17 sc_pairL.nd (de_ixN (k := 5) (de_var 6)))) dss_nil)
    (dss_cons (ds_if (dt_eq (de_var 2) de_int) (dss_one (ds_set 17 sc_pairL.nd (de_call C_spotL hr (by omega) (da_cons (de_call C_spot_plusL hr (by omega) (da_cons (de_ixN (k := 5) (de_var 6)) (da_cons (de_call C_spot_timesL hr (by omega) (da_cons (de_var 12) (da_cons (de_tup (da_cons (de_sub (de_call C_takeL hr (by omega) (da_cons (de_var 0) (da_cons de_int da_nil))) de_int) (da_cons de_int da_nil))) da_nil))) da_nil))) da_nil)))) dss_nil)
    (dss_cons (ds_if (dt_gt (de_var 2) de_int) (dss_cons (ds_set 19 sc_pairL.nd (de_call C_spot_plusL hr (by omega) (da_cons (de_var 15) (da_cons (de_call C_spot_timesL hr (by omega) (da_cons (de_var 16) (da_cons (de_tup (da_cons (de_neg de_int) (da_cons de_int da_nil))) da_nil))) da_nil))))
    (dss_one (ds_set 17 sc_pairL.nd (de_call C_spotL hr (by omega) (da_cons (de_call C_spot_plusL hr (by omega) (da_cons (de_ixN (k := 5) (de_var 6)) (da_cons (de_call C_spot_timesL hr (by omega) (da_cons (de_var 19) (da_cons (de_tup (da_cons (de_ixN (k := 1) (de_var 8)) (da_cons (de_ixN (k := 0) (de_var 8)) da_nil))) da_nil))) da_nil))) da_nil))))) dss_nil)
    (dss_one (ds_ret (de_tup (da_cons (de_var 6) (da_cons (de_plus (de_sl (de_var 7) do_none (do_some de_int)) (de_tup (da_cons (de_var 16) (da_cons (de_var 17) da_nil)))) (da_cons (de_var 8) da_nil)))))))))))))))))))))))))
theorem walk_untilL {P : Program} {w : World} {K : PySem.W.Frag} {mg : Str → Option Value} {base : Heap} (C_shareL : Cal P w K mg base 2 "_law_share" 2 sp_shareL) (C_takeL : Cal P w K mg base 2 "_law_take" 2 sp_takeL) {f : Addr} (cdv : Value) (A : Around) (outer : List Env) (s : Shared) (H : Hp) (E : XK) (hr : Room 2 (A.deeper (envOfC "_law_until" (defScope S_untilL) s.heap.objs.size f cdv))) :
    DSs (cxOf CX0 P w K mg base N_untilL "_law_until" (defScope S_untilL) f cdv A outer s H E).nox (defBody S_untilL) t_untilL :=
  (dss_cons (ds_set 2 sc_untilL.nd (de_call C_takeL hr (by omega) (da_cons (de_var 0) (da_cons de_int da_nil))))
    (dss_cons (ds_set 3 sc_untilL.nd (de_tup (da_cons de_int (da_cons (de_add de_int (de_call C_takeL hr (by omega) (da_cons (de_var 0) (da_cons de_int da_nil)))) da_nil))))
    (dss_cons (ds_if (dt_eq (de_var 2) de_int) (dss_one (ds_ret (de_tup (da_cons de_int (da_cons de_int da_nil))))) dss_nil)
    (dss_cons (ds_if (dt_lt (de_var 2) de_int) (dss_one (ds_ret (de_var 1))) dss_nil)
    (dss_cons (ds_if (dt_eq (de_var 2) de_int) (dss_one (ds_ret (de_call C_shareL hr (by omega) (da_cons (de_add (de_mul (de_ixN (k := 0) (de_var 1)) (de_ixN (k := 1) (de_var 3))) (de_ixN (k := 1) (de_var 1))) (da_cons (de_mul (de_ixN (k := 1) (de_var 1)) (de_ixN (k := 1) (de_var 3))) da_nil))))) dss_nil)
    (dss_cons (ds_if (PW.pt (dw_and (dt_eq (de_var 2) de_int) (dw_and1 (dt_gt (de_mul (de_ixN (k := 0) (de_var 1)) (de_ixN (k := 1) (de_var 3))) (de_ixN (k := 1) (de_var 1)))))) (dss_one (ds_ret (de_call C_shareL hr (by omega) (da_cons (de_sub (de_mul (de_ixN (k := 0) (de_var 1)) (de_ixN (k := 1) (de_var 3))) (de_ixN (k := 1) (de_var 1))) (da_cons (de_mul (de_ixN (k := 1) (de_var 1)) (de_ixN (k := 1) (de_var 3))) da_nil))))) dss_nil)
    (dss_one (ds_ret (de_call C_shareL hr (by omega) (da_cons (de_call C_takeL hr (by omega) (da_cons (de_var 0) (da_cons de_int da_nil))) (da_cons (de_add de_int (de_call C_takeL hr (by omega) (da_cons (de_var 0) (da_cons de_int da_nil)))) da_nil)))))))))))
theorem walk_crossingsL {P : Program} {w : World} {K : PySem.W.Frag} {mg : Str → Option Value} {base : Heap} (C_betweenL : Cal P w K mg base 3 "_law_between" 3 sp_betweenL) (C_pair_waysL : Cal P w K mg base 4 "_law_pair_ways" 2 sp_pair_waysL) (C_roomL : Cal P w K mg base 2 "_law_room" 4 sp_roomL) (C_shareL : Cal P w K mg base 2 "_law_share" 2 sp_shareL) {f : Addr} (cdv : Value) (A : Around) (outer : List Env) (s : Shared) (H : Hp) (E : XK) (hr : Room 4 (A.deeper (envOfC "_law_crossings" (defScope S_crossingsL) s.heap.objs.size f cdv))) :
    DSs (cxOf CX0 P w K mg base N_crossingsL "_law_crossings" (defScope S_crossingsL) f cdv A outer s H E).nox (defBody S_crossingsL) t_crossingsL :=
  (dss_cons (ds_own 2 sc_crossingsL.nd)
    (dss_cons (ds_par 3 4 rfl sc_crossingsL.nd (da_cons (de_call C_betweenL hr (by omega) (da_cons (de_var 0) (da_cons (de_var 1) (da_cons (de_tup (da_cons de_int (da_cons de_int da_nil))) da_nil)))) (da_cons (de_call C_betweenL hr (by omega) (da_cons (de_var 0) (da_cons (de_var 1) (da_cons (de_tup (da_cons de_int (da_cons de_int da_nil))) da_nil)))) da_nil)))
    (dss_cons (ds_for PassesOwn.never rfl (di_lst (de_call C_pair_waysL hr (by omega) (da_cons (de_var 0) (da_cons (de_var 1) da_nil)))) (dg_name (i := 5) sc_crossingsL.nd) (dss_cons (ds_par 6 7 rfl sc_crossingsL.nd (da_cons (de_call C_roomL hr (by omega) (da_cons (de_var 0) (da_cons (de_var 1) (da_cons (de_var 5) (da_cons (de_var 3) da_nil))))) (da_cons (de_call C_roomL hr (by omega) (da_cons (de_var 0) (da_cons (de_var 1) (da_cons (de_var 5) (da_cons (de_var 4) da_nil))))) da_nil)))
    (dss_cons (ds_set 8 sc_crossingsL.nd (de_sub (de_mul (de_var 7) (de_ixN (k := 2) (de_var 3))) (de_mul (de_var 6) (de_ixN (k := 2) (de_var 4)))))
    (dss_cons (ds_if (dt_gt (de_var 8) de_int) (dss_one (ds_app 2 (de_tup (da_cons (de_call C_shareL hr (by omega) (da_cons (de_mul (de_neg (de_var 6)) (de_ixN (k := 2) (de_var 4))) (da_cons (de_var 8) da_nil))) (da_cons (de_var 5) (da_cons de_bl da_nil)))))) dss_nil)
    (dss_one (ds_if (dt_lt (de_var 8) de_int) (dss_one (ds_app 2 (de_tup (da_cons (de_call C_shareL hr (by omega) (da_cons (de_mul (de_var 6) (de_ixN (k := 2) (de_var 4))) (da_cons (de_neg (de_var 8)) da_nil))) (da_cons (de_var 5) (da_cons de_bl da_nil)))))) dss_nil))))))
    (dss_one (ds_ret (de_frz 2))))))
theorem walk_uprightL {P : Program} {w : World} {K : PySem.W.Frag} {mg : Str → Option Value} {base : Heap} (C_spot_plusL : Cal P w K mg base 2 "_law_spot_plus" 2 sp_spot_plusL) (C_spot_timesL : Cal P w K mg base 2 "_law_spot_times" 2 sp_spot_timesL) (C_wayL : Cal P w K mg base 2 "_law_way" 2 sp_wayL) {f : Addr} (cdv : Value) (A : Around) (outer : List Env) (s : Shared) (H : Hp) (E : XK) (hr : Room 2 (A.deeper (envOfC "_law_upright" (defScope S_uprightL) s.heap.objs.size f cdv))) :
    DSs (cxOf CX0 P w K mg base N_uprightL "_law_upright" (defScope S_uprightL) f cdv A outer s H E).nox (defBody S_uprightL) t_uprightL :=
  (dss_cons (ds_set 2 sc_uprightL.nd (de_call C_spot_plusL hr (by omega) (da_cons (de_ixN (k := 5) (de_var 1)) (da_cons (de_call C_spot_timesL hr (by omega) (da_cons (de_ixN (k := 5) (de_var 0)) (da_cons (de_tup (da_cons (de_neg de_int) (da_cons de_int da_nil))) da_nil))) da_nil))))
    (dss_cons (ds_par 3 4 rfl sc_uprightL.nd (da_cons (de_mul (de_neg (de_ixN (k := 0) (de_ixN (k := 1) (de_var 2)))) (de_ixN (k := 1) (de_ixN (k := 0) (de_var 2)))) (da_cons (de_mul (de_ixN (k := 0) (de_ixN (k := 0) (de_var 2))) (de_ixN (k := 1) (de_ixN (k := 1) (de_var 2)))) da_nil)))
    (dss_cons (ds_if (PW.pt (dw_and (dt_eq (de_var 3) de_int) (dw_and1 (dt_eq (de_var 4) de_int)))) (dss_one (ds_ret (de_tup (da_cons de_int (da_cons de_int da_nil))))) dss_nil)
    (dss_one (ds_ret (de_call C_wayL hr (by omega) (da_cons (de_var 3) (da_cons (de_var 4) da_nil))))))))
theorem walk_turnedL {P : Program} {w : World} {K : PySem.W.Frag} {mg : Str → Option Value} {base : Heap}  {f : Addr} (cdv : Value) (A : Around) (outer : List Env) (s : Shared) (H : Hp) (E : XK) (hr : Room 0 (A.deeper (envOfC "_law_turned" (defScope S_turnedL) s.heap.objs.size f cdv))) :
    DSs (cxOf CX0 P w K mg base N_turnedL "_law_turned" (defScope S_turnedL) f cdv A outer s H E).nox (defBody S_turnedL) t_turnedL :=
  (dss_one (ds_ret (de_plus (de_sl (de_var 0) do_none (do_some (de_neg de_int))) (de_tup (da_cons (de_tup (da_cons (de_neg (de_ixN (k := 0) (de_ix (de_var 0) (de_neg de_int)))) (da_cons (de_neg (de_ixN (k := 1) (de_ix (de_var 0) (de_neg de_int)))) da_nil))) da_nil)))))
theorem walk_papersL {P : Program} {w : World} {K : PySem.W.Frag} {mg : Str → Option Value} {base : Heap} (C_crossingsL : Cal P w K mg base 5 "_law_crossings" 2 sp_crossingsL) (C_pair_waysL : Cal P w K mg base 4 "_law_pair_ways" 2 sp_pair_waysL) (C_plusL : Cal P w K mg base 1 "_law_plus" 2 sp_plusL) (C_shareL : Cal P w K mg base 2 "_law_share" 2 sp_shareL) (C_takeL : Cal P w K mg base 2 "_law_take" 2 sp_takeL) (C_uprightL : Cal P w K mg base 3 "_law_upright" 2 sp_uprightL) (C_wayL : Cal P w K mg base 2 "_law_way" 2 sp_wayL) (m_len : mg "len" = none) (m_range : mg "range" = none) {f : Addr} (cdv : Value) (A : Around) (outer : List Env) (s : Shared) (H : Hp) (E : XK) (hr : Room 5 (A.deeper (envOfC "_law_papers" (defScope S_papersL) s.heap.objs.size f cdv))) :
    DSs (cxOf CX0 P w K mg base N_papersL "_law_papers" (defScope S_papersL) f cdv A outer s H E).nox (defBody S_papersL) t_papersL :=
  (dss_cons (ds_set 3 sc_papersL.nd (de_call C_pair_waysL hr (by omega) (da_cons (de_var 1) (da_cons (de_var 2) da_nil))))
    (dss_cons (ds_asg (de_call C_uprightL hr (by omega) (da_cons (de_var 1) (da_cons (de_var 2) da_nil))) (dg_tup rfl (dgs_cons (dg_name (i := 4) sc_papersL.nd) (dgs_cons (dg_name (i := 5) sc_papersL.nd) dgs_nil))))
    (dss_cons (ds_ownCat 6 sc_papersL.nd (de_lc (own := [("_law_way_here", 9)]) rfl sc_papersL.nd (di_lst (de_var 3)) (blkOk_by (N := N_papersL) (sc := defScope S_papersL) (by decide +kernel)) (by decide) (fun _ _ _ _ _ => (dg_name (i := 9) sc_papersL.nd)) (fun _ _ _ _ _ => dts_nil) (fun _ _ _ _ _ => (de_tup (da_cons de_str (da_cons (de_var 9) da_nil))))) (de_lst (da_cons (de_tup (da_cons de_str (da_cons (de_tup (da_cons (de_var 4) (da_cons (de_var 5) da_nil))) da_nil))) (da_cons (de_tup (da_cons de_str (da_cons (de_tup (da_cons (de_neg (de_var 4)) (da_cons (de_neg (de_var 5)) da_nil))) da_nil))) da_nil))))
    (dss_cons (ds_for PassesOwn.never rfl (di_range m_range de_int) (dg_name (i := 7) sc_papersL.nd) (dss_one (ds_app 6 (de_tup (da_cons de_str (da_cons (de_call C_wayL hr (by omega) (da_cons (de_sub (de_call C_takeL hr (by omega) (da_cons (de_var 0) (da_cons de_int da_nil))) de_int) (da_cons (de_add de_int (de_call C_takeL hr (by omega) (da_cons (de_var 0) (da_cons de_int da_nil)))) da_nil))) da_nil))))))
    (dss_cons (ds_for PassesOwn.never rfl (di_lst (de_call C_crossingsL hr (by omega) (da_cons (de_var 1) (da_cons (de_var 2) da_nil)))) (dg_tup rfl (dgs_cons (dg_name (i := 8) sc_papersL.nd) (dgs_cons (dg_name (i := 9) sc_papersL.nd) (dgs_cons (dg_name (i := 10) sc_papersL.nd) dgs_nil)))) (dss_cons (ds_set 11 sc_papersL.nd (de_call C_plusL hr (by omega) (da_cons (de_var 8) (da_cons (de_tup (da_cons de_int (da_cons (de_add de_int (de_call C_takeL hr (by omega) (da_cons (de_var 0) (da_cons de_int da_nil)))) da_nil))) da_nil))))
    (dss_cons (ds_ownCat 6 sc_papersL.nd (de_frz 6) (de_lst (da_cons (de_tup (da_cons de_str (da_cons (de_var 8) (da_cons (de_var 9) da_nil)))) (da_cons (de_tup (da_cons de_str (da_cons (de_var 8) (da_cons (de_ix (de_var 3) (de_call C_takeL hr (by omega) (da_cons (de_var 0) (da_cons (de_len m_len (da_cons (de_var 3) da_nil)) da_nil)))) da_nil)))) da_nil))))
    (dss_one (ds_app 6 (de_tup (da_cons de_str (da_cons (de_call C_shareL hr (by omega) (da_cons (de_ixN (k := 0) (de_var 11)) (da_cons (de_ixN (k := 1) (de_var 11)) da_nil))) (da_cons (de_var 9) da_nil)))))))))
    (dss_one (ds_ret (de_frz 6))))))))
theorem walk_told_is_rightL {P : Program} {w : World} {K : PySem.W.Frag} {mg : Str → Option Value} {base : Heap} (C_first : Cal P w K mg base 7 "first" 3 sp_first) (C_first_held : Cal P w K mg base 8 "first_held" 4 sp_first_held) (C_turnedL : Cal P w K mg base 1 "_law_turned" 1 sp_turnedL) {f : Addr} (cdv : Value) (A : Around) (outer : List Env) (s : Shared) (H : Hp) (E : XK) (hr : Room 8 (A.deeper (envOfC "_law_told_is_right" (defScope S_told_is_rightL) s.heap.objs.size f cdv))) :
    DSs (cxOf CX0 P w K mg base N_told_is_rightL "_law_told_is_right" (defScope S_told_is_rightL) f cdv A outer s H E).nox (defBody S_told_is_rightL) t_told_is_rightL :=
  (dss_cons (ds_set 4 sc_told_is_rightL.nd (de_call C_first hr (by omega) (da_cons (de_var 0) (da_cons (de_var 1) (da_cons (de_var 2) da_nil)))))
    (dss_cons (ds_if (PW.pt (dw_or (dt_not (dt_val (de_call C_first_held hr (by omega) (da_cons (de_var 0) (da_cons (de_var 1) (da_cons (de_var 2) (da_cons (de_var 4) da_nil))))))) (dw_or1 (dt_not (dt_val (de_call C_first_held hr (by omega) (da_cons (de_var 1) (da_cons (de_var 0) (da_cons (de_var 2) (da_cons (de_call C_turnedL hr (by omega) (da_cons (de_var 4) da_nil)) da_nil)))))))))) (dss_one (ds_ret de_bl)) dss_nil)
    (dss_cons (ds_if (dt_eq (de_ixN (k := 0) (de_var 4)) de_str) (dss_one (ds_ret (de_eqD hr (de_var 3) (de_lst da_nil)))) dss_nil)
    (dss_one (ds_ret (de_eqD hr (de_lc (own := [("_law_time", 5)]) rfl sc_told_is_rightL.nd (di_lst (de_var 3)) (blkOk_by (N := N_told_is_rightL) (sc := defScope S_told_is_rightL) (by decide +kernel)) (by decide) (fun _ _ _ _ _ => (dg_name (i := 5) sc_told_is_rightL.nd)) (fun _ _ _ _ _ => (dts_one (dt_neD hr (de_var 5) (de_ixN (k := 1) (de_var 4))))) (fun _ _ _ _ _ => (de_var 5))) (de_lst da_nil)))))))
theorem walk_law {P : Program} {w : World} {K : PySem.W.Frag} {mg : Str → Option Value} {base : Heap} (C_deckL : Cal P w K mg base 1 "_law_deck" 1 sp_deckL) (C_first : Cal P w K mg base 7 "first" 3 sp_first) (C_first_held : Cal P w K mg base 8 "first_held" 4 sp_first_held) (C_overL : Cal P w K mg base 6 "_law_over" 3 sp_overL) (C_pairL : Cal P w K mg base 8 "_law_pair" 1 sp_pairL) (C_papersL : Cal P w K mg base 6 "_law_papers" 3 sp_papersL) (C_plusL : Cal P w K mg base 1 "_law_plus" 2 sp_plusL) (C_shareL : Cal P w K mg base 2 "_law_share" 2 sp_shareL) (C_takeL : Cal P w K mg base 2 "_law_take" 2 sp_takeL) (C_told_is_rightL : Cal P w K mg base 9 "_law_told_is_right" 4 sp_told_is_rightL) (C_untilL : Cal P w K mg base 3 "_law_until" 2 sp_untilL) {f : Addr} (cdv : Value) (A : Around) (outer : List Env) (s : Shared) (H : Hp) (E : XK) (hr : Room 9 (A.deeper (envOfC "law" (defScope S_law) s.heap.objs.size f cdv))) :
    DSs (cxOf CX0 P w K mg base N_law "law" (defScope S_law) f cdv A outer s H E).nox (defBody S_law) t_law :=
  (dss_cons (ds_set 1 sc_law.nd (de_call C_deckL hr (by omega) (da_cons (de_var 0) da_nil)))
    (dss_cons (ds_asg (de_call C_pairL hr (by omega) (da_cons (de_var 1) da_nil)) (dg_tup rfl (dgs_cons (dg_name (i := 2) sc_law.nd) (dgs_cons (dg_name (i := 3) sc_law.nd) (dgs_cons (dg_name (i := 4) sc_law.nd) dgs_nil)))))
    (dss_cons (ds_set 5 sc_law.nd (de_call C_untilL hr (by omega) (da_cons (de_var 1) (da_cons (de_var 4) da_nil))))
    (dss_cons (ds_setLc 6 (own := [("_law_paper", 9)]) rfl sc_law.nd (di_lst (de_call C_papersL hr (by omega) (da_cons (de_var 1) (da_cons (de_var 2) (da_cons (de_var 3) da_nil))))) (blkOk_by (N := N_law) (sc := defScope S_law) (by decide +kernel)) (by decide) (fun _ _ _ _ _ => (dg_name (i := 9) sc_law.nd)) (fun _ _ _ _ _ => (dts_one (dt_val (de_call C_first_held hr (by omega) (da_cons (de_var 2) (da_cons (de_var 3) (da_cons (de_var 5) (da_cons (de_var 9) da_nil)))))))) (fun _ _ _ _ _ => (de_var 9)))
    (dss_cons (ds_set 7 sc_law.nd (de_lc (own := [("_law_paper", 9)]) rfl sc_law.nd (di_lst (de_var 6)) (blkOk_by (N := N_law) (sc := defScope S_law) (by decide +kernel)) (by decide) (fun _ _ _ _ _ => (dg_name (i := 9) sc_law.nd)) (fun _ _ _ _ _ => (dts_one (dt_eq (de_ixN (k := 0) (de_var 9)) de_str))) (fun _ _ _ _ _ => (de_ixN (k := 1) (de_var 9)))))
    (dss_cons (ds_if (PW.pt (dw_and (dt_neD hr (de_var 7) (de_lst da_nil)) (dw_and1 (dt_neD hr (de_lc (own := [("_law_paper", 9)]) rfl sc_law.nd (di_lst (de_var 6)) (blkOk_by (N := N_law) (sc := defScope S_law) (by decide +kernel)) (by decide) (fun _ _ _ _ _ => (dg_name (i := 9) sc_law.nd)) (fun _ _ _ _ _ => (dts_one (dt_eq (de_ixN (k := 0) (de_var 9)) de_str))) (fun _ _ _ _ _ => (de_var 9))) (de_lst da_nil))))) (dss_one (ds_ret de_bl)) dss_nil)
    (dss_cons (ds_if (dt_neD hr (de_lc (own := [("_law_time", 10)]) rfl sc_law.nd (di_lst (de_var 7)) (blkOk_by (N := N_law) (sc := defScope S_law) (by decide +kernel)) (by decide) (fun _ _ _ _ _ => (dg_name (i := 10) sc_law.nd)) (fun _ _ _ _ _ => (dts_one (dt_neD hr (de_var 10) (de_ixN (k := 0) (de_var 7))))) (fun _ _ _ _ _ => (de_var 10))) (de_lst da_nil)) (dss_one (ds_ret de_bl)) dss_nil)
    (dss_cons (ds_if (dt_val (de_call C_overL hr (by omega) (da_cons (de_var 2) (da_cons (de_var 3) (da_cons (de_tup (da_cons de_int (da_cons de_int da_nil))) da_nil))))) (dss_one (ds_ret (de_eqD hr (de_var 6) (de_lst da_nil)))) dss_nil)
    (dss_cons (ds_if (dt_not (dt_val (de_call C_told_is_rightL hr (by omega) (da_cons (de_var 2) (da_cons (de_var 3) (da_cons (de_var 5) (da_cons (de_var 7) da_nil))))))) (dss_one (ds_ret de_bl)) dss_nil)
    (dss_cons (ds_set 8 sc_law.nd (de_call C_plusL hr (by omega) (da_cons (de_var 5) (da_cons (de_tup (da_cons (de_add de_int (de_call C_takeL hr (by omega) (da_cons (de_var 1) (da_cons de_int da_nil)))) (da_cons (de_add de_int (de_call C_takeL hr (by omega) (da_cons (de_var 1) (da_cons de_int da_nil)))) da_nil))) da_nil))))
    (dss_cons (ds_for PassesOwn.never rfl (di_lst (de_var 6)) (dg_name (i := 9) sc_law.nd) (dss_one (ds_if (dt_eq (de_ixN (k := 0) (de_var 9)) de_str) (dss_cons (ds_if (dt_not (dt_val (de_call C_first_held hr (by omega) (da_cons (de_var 2) (da_cons (de_var 3) (da_cons (de_call C_shareL hr (by omega) (da_cons (de_ixN (k := 0) (de_var 8)) (da_cons (de_ixN (k := 1) (de_var 8)) da_nil))) (da_cons (de_var 9) da_nil))))))) (dss_one (ds_ret de_bl)) dss_nil)
    (dss_one (ds_if (dt_ne (de_ixN (k := 0) (de_call C_first hr (by omega) (da_cons (de_var 2) (da_cons (de_var 3) (da_cons (de_ixN (k := 1) (de_var 9)) da_nil))))) de_str) (dss_one (ds_ret de_bl)) dss_nil))) dss_nil)))
    (dss_one (ds_ret de_bl)))))))))))))
end K23
/-! the readings keep the promises: shares -/
namespace K23
open PySem PySem.Spec PyProof.Rows L2
abbrev Ret (R : D → M → Prop) : DEnds := ⟨fun _ m' => R .non m', R, fun _ _ => False, fun _ _ => False⟩
def Rd (n k : Nat) (sp : DSp) (t : DTS) : Prop := ∀ (xs : List D) (m : M) (R : D → M → Prop), xs.length = n → m.ow = none → sp xs m R → t (Ret R) (startD k xs) m
theorem m_none' {m : M} (h : m.ow = none) : (⟨m.dk, none⟩ : M) = m := by cases m; simp_all
theorem mulW {n k : Nat} {i j : Int} (h : B n i) (e : B k j) (z : n + k ≤ 900000) : CMulW i j := by
  have := h.log
  have := e.log
  unfold CMulW
  omega
theorem divZ {n : Nat} {i j : Int} (h : j ≠ 0) (e : B n j) (hn : 0 < n) (z : n ≤ 9000) : CDivZ i j := by
  have := e.log' hn
  exact ⟨h, by omega⟩
theorem fdiv_g (t : Int) {g : Int} (h : 0 < g) : t.fdiv g = t / g := Int.fdiv_eq_ediv_of_nonneg _ (by omega)
theorem fdiv_ng {t g : Int} (h : 0 < g) (hd : g ∣ t) : t.fdiv (-g) = (-t) / g := by
  rw [Int.fdiv_eq_ediv_of_dvd (Int.neg_dvd.mpr hd), Int.ediv_neg, Int.neg_ediv_of_dvd hd]
theorem rd_is_whole : Rd 1 1 sp_is_whole t_is_whole := by
  rintro _ ⟨dk, ow⟩ R - ho ⟨⟨i, rfl⟩, h⟩
  cases ho
  simp only [t_is_whole, sRet, sSeq, sIf, sNext, sSet, sPar, sAsg, sFor, sNever, sCont, dVar, dC, dNeg, dBin, oI, oI0, oEq, oIx, dTst, dAndT, dOrT, dNotT, dAndV, dOrV, dNotV, dIfE, dNil, dCons, dTup, dLst, dIxN, dCall, dCB, oAt, oAbs, gdName, gdNil, gdCons, gdTup, startD, tYesD, dIsi, List.map, List.length, List.replicate, Nat.sub_self, Nat.reduceSub, Nat.reduceAdd, List.reduceReplicate, List.append_nil, List.nil_append, List.cons_append, List.getElem?_cons_zero, List.getElem?_cons_succ, List.set_cons_zero, List.set_cons_succ, if_true, if_false, Bool.not_true, Bool.not_false, Bool.false_eq_true, decide_true, decide_false, true_and, and_true]
  exact h
/-- the greatest common divisor's loop -/
theorem gcd_loop {x y : Int} (hx : 0 ≤ x) (hy : 0 < y) : Int.gcd y (x % y) = Int.gcd x y := by
  obtain ⟨a, rfl⟩ := Int.eq_ofNat_of_zero_le hx
  obtain ⟨b, rfl⟩ := Int.eq_ofNat_of_zero_le (Int.le_of_lt hy)
  rw [← Int.natCast_emod, Int.gcd_natCast_natCast, Int.gcd_natCast_natCast, Nat.gcd_comm a b, Nat.gcd_rec b a, Nat.gcd_comm]
theorem natAbs_pos' (i : Int) : (if i < 0 then -i else i) = (i.natAbs : Int) := by split <;> omega
theorem rd_divisor : Rd 2 2 sp_divisor t_divisor := by
  rintro _ ⟨dk, ow⟩ R - ho ⟨i, j, rfl, h⟩
  cases ho
  simp only [t_divisor, sWhile, sRet, sSeq, sIf, sNext, sSet, sPar, sAsg, sFor, sNever, sCont, dVar, dC, dNeg, dBin, oI, oI0, oEq, oIx, dTst, dAndT, dOrT, dNotT, dAndV, dOrV, dNotV, dIfE, dNil, dCons, dTup, dLst, dIxN, dCall, dCB, oAt, oAbs, gdName, gdNil, gdCons, gdTup, startD, tYesD, dIsi, List.map, List.length, List.replicate, Nat.sub_self, Nat.reduceSub, Nat.reduceAdd, List.reduceReplicate, List.append_nil, List.nil_append, List.cons_append, List.getElem?_cons_zero, List.getElem?_cons_succ, List.set_cons_zero, List.set_cons_succ, if_true, if_false, Bool.not_true, Bool.not_false, Bool.false_eq_true, decide_true, decide_false, true_and, and_true]
  refine ⟨fun n ds m => ∃ x y : Int, ds = [some (.int x), some (.int y)] ∧ 0 ≤ x ∧ 0 ≤ y ∧ n = y.toNat ∧ Int.gcd x y = Int.gcd i j ∧ m = ⟨dk, none⟩, ⟨_, _, _, rfl, by omega, by omega, rfl, by simp [Int.gcd], rfl⟩, ?_⟩
  rintro n _ _ ⟨x, y, rfl, hx, hy, rfl, hg, rfl⟩
  simp only [sRet, sSeq, sIf, sNext, sSet, sPar, sAsg, sFor, sNever, sCont, dVar, dC, dNeg, dBin, oI, oI0, oEq, oIx, dTst, dAndT, dOrT, dNotT, dAndV, dOrV, dNotV, dIfE, dNil, dCons, dTup, dLst, dIxN, dCall, dCB, oAt, oAbs, gdName, gdNil, gdCons, gdTup, startD, tYesD, dIsi, List.map, List.length, List.replicate, Nat.sub_self, Nat.reduceSub, Nat.reduceAdd, List.reduceReplicate, List.append_nil, List.nil_append, List.cons_append, List.getElem?_cons_zero, List.getElem?_cons_succ, List.set_cons_zero, List.set_cons_succ, if_true, if_false, Bool.not_true, Bool.not_false, Bool.false_eq_true, decide_true, decide_false, true_and, and_true]
  by_cases hp : 0 < y
  · simp only [hp, sRet, sSeq, sIf, sNext, sSet, sPar, sAsg, sFor, sNever, sCont, dVar, dC, dNeg, dBin, oI, oI0, oEq, oIx, dTst, dAndT, dOrT, dNotT, dAndV, dOrV, dNotV, dIfE, dNil, dCons, dTup, dLst, dIxN, dCall, dCB, oAt, oAbs, gdName, gdNil, gdCons, gdTup, startD, tYesD, dIsi, List.map, List.length, List.replicate, Nat.sub_self, Nat.reduceSub, Nat.reduceAdd, List.reduceReplicate, List.append_nil, List.nil_append, List.cons_append, List.getElem?_cons_zero, List.getElem?_cons_succ, List.set_cons_zero, List.set_cons_succ, if_true, if_false, Bool.not_true, Bool.not_false, Bool.false_eq_true, decide_true, decide_false, true_and, and_true]
    refine ⟨_, fun ds' m' q => q, (x % y).toNat, ?_, _, _, rfl, hy, Int.emod_nonneg _ (by omega), rfl, by rw [gcd_loop hx hp, hg], rfl⟩
    have := Int.emod_lt_of_pos x hp
    have := Int.emod_nonneg x (show y ≠ 0 by omega)
    omega
  · have e : y = 0 := by omega
    subst e
    rw [Int.gcd_zero_right] at hg
    have e : x = (Int.gcd i j : Int) := by omega
    rw [e]
    exact h
theorem rd_share : Rd 2 3 sp_share t_share := by
  rintro _ ⟨dk, ow⟩ R - ho ⟨t, b, rfl, hb, hB, h⟩
  cases ho
  simp only [t_share, hb, sp_divisor, sRet, sSeq, sIf, sNext, sSet, sPar, sAsg, sFor, sNever, sCont, dVar, dC, dNeg, dBin, oI, oI0, oEq, oIx, dTst, dAndT, dOrT, dNotT, dAndV, dOrV, dNotV, dIfE, dNil, dCons, dTup, dLst, dIxN, dCall, dCB, oAt, oAbs, gdName, gdNil, gdCons, gdTup, startD, tYesD, dIsi, List.map, List.length, List.replicate, Nat.sub_self, Nat.reduceSub, Nat.reduceAdd, List.reduceReplicate, List.append_nil, List.nil_append, List.cons_append, List.getElem?_cons_zero, List.getElem?_cons_succ, List.set_cons_zero, List.set_cons_succ, if_true, if_false, Bool.not_true, Bool.not_false, Bool.false_eq_true, decide_true, decide_false, true_and, and_true]
  have hg := gcd_pos (t := t) (b := b) (.inr hb)
  have dt : (Int.gcd t b : Int) ∣ t := Int.gcd_dvd_left _ _
  have db : (Int.gcd t b : Int) ∣ b := Int.gcd_dvd_right _ _
  have gB : B 8990 (Int.gcd t b : Int) := by
    unfold B at *
    have : Int.gcd t b ≤ b.natAbs := Nat.gcd_le_right _ (by omega)
    simp only [Int.natAbs_natCast]
    omega
  refine ⟨_, _, rfl, ?_⟩
  by_cases hn : b < 0
  · simp only [hn, sRet, sSeq, sIf, sNext, sSet, sPar, sAsg, sFor, sNever, sCont, dVar, dC, dNeg, dBin, oI, oI0, oEq, oIx, dTst, dAndT, dOrT, dNotT, dAndV, dOrV, dNotV, dIfE, dNil, dCons, dTup, dLst, dIxN, dCall, dCB, oAt, oAbs, gdName, gdNil, gdCons, gdTup, startD, tYesD, dIsi, List.map, List.length, List.replicate, Nat.sub_self, Nat.reduceSub, Nat.reduceAdd, List.reduceReplicate, List.append_nil, List.nil_append, List.cons_append, List.getElem?_cons_zero, List.getElem?_cons_succ, List.set_cons_zero, List.set_cons_succ, if_true, if_false, Bool.not_true, Bool.not_false, Bool.false_eq_true, decide_true, decide_false, true_and, and_true]
    refine ⟨divZ (by omega) gB.neg (by decide) (by decide), divZ (by omega) gB.neg (by decide) (by decide), ?_⟩
    have e := divInt_cutn (t := t) hn
    rw [fdiv_ng hg dt, fdiv_ng hg db, ← e.1, ← e.2]
    exact h
  · simp only [hn, sRet, sSeq, sIf, sNext, sSet, sPar, sAsg, sFor, sNever, sCont, dVar, dC, dNeg, dBin, oI, oI0, oEq, oIx, dTst, dAndT, dOrT, dNotT, dAndV, dOrV, dNotV, dIfE, dNil, dCons, dTup, dLst, dIxN, dCall, dCB, oAt, oAbs, gdName, gdNil, gdCons, gdTup, startD, tYesD, dIsi, List.map, List.length, List.replicate, Nat.sub_self, Nat.reduceSub, Nat.reduceAdd, List.reduceReplicate, List.append_nil, List.nil_append, List.cons_append, List.getElem?_cons_zero, List.getElem?_cons_succ, List.set_cons_zero, List.set_cons_succ, if_true, if_false, Bool.not_true, Bool.not_false, Bool.false_eq_true, decide_true, decide_false, true_and, and_true]
    refine ⟨divZ (by omega) gB (by decide) (by decide), divZ (by omega) gB (by decide) (by decide), ?_⟩
    have e := divInt_cut (t := t) (b := b) (by omega)
    rw [fdiv_g _ hg, fdiv_g _ hg, ← e.1, ← e.2]
    exact h
theorem rd_plus : Rd 2 2 sp_plus t_plus := by
  rintro _ ⟨dk, ow⟩ R - ho ⟨p, q, a, b, rfl, h1, h2, h3, h⟩
  cases ho
  simp only [t_plus, sp_share, sRet, sSeq, sIf, sNext, sSet, sPar, sAsg, sFor, sNever, sCont, dVar, dC, dNeg, dBin, oI, oI0, oEq, oIx, dTst, dAndT, dOrT, dNotT, dAndV, dOrV, dNotV, dIfE, dNil, dCons, dTup, dLst, dIxN, dCall, dCB, oAt, oAbs, gdName, gdNil, gdCons, gdTup, startD, tYesD, dIsi, List.map, List.length, List.replicate, Nat.sub_self, Nat.reduceSub, Nat.reduceAdd, List.reduceReplicate, List.append_nil, List.nil_append, List.cons_append, List.getElem?_cons_zero, List.getElem?_cons_succ, List.set_cons_zero, List.set_cons_succ, if_true, if_false, Bool.not_true, Bool.not_false, Bool.false_eq_true, decide_true, decide_false, true_and, and_true]
  refine ⟨mulW h1.1 h2.den (by omega), mulW h2.1 h1.den (by omega), mulW h1.den h2.den (by omega), _, _, rfl, Int.mul_ne_zero (den_ne _) (den_ne _), (h1.den.mul h2.den).mono h3, ?_⟩
  rw [plus_cut]
  exact h
theorem rd_minus : Rd 2 2 sp_minus t_minus := by
  rintro _ ⟨dk, ow⟩ R - ho ⟨p, q, a, b, rfl, h1, h2, h3, h⟩
  cases ho
  simp only [t_minus, sp_share, sRet, sSeq, sIf, sNext, sSet, sPar, sAsg, sFor, sNever, sCont, dVar, dC, dNeg, dBin, oI, oI0, oEq, oIx, dTst, dAndT, dOrT, dNotT, dAndV, dOrV, dNotV, dIfE, dNil, dCons, dTup, dLst, dIxN, dCall, dCB, oAt, oAbs, gdName, gdNil, gdCons, gdTup, startD, tYesD, dIsi, List.map, List.length, List.replicate, Nat.sub_self, Nat.reduceSub, Nat.reduceAdd, List.reduceReplicate, List.append_nil, List.nil_append, List.cons_append, List.getElem?_cons_zero, List.getElem?_cons_succ, List.set_cons_zero, List.set_cons_succ, if_true, if_false, Bool.not_true, Bool.not_false, Bool.false_eq_true, decide_true, decide_false, true_and, and_true]
  refine ⟨mulW h1.1 h2.den (by omega), mulW h2.1 h1.den (by omega), mulW h1.den h2.den (by omega), _, _, rfl, Int.mul_ne_zero (den_ne _) (den_ne _), (h1.den.mul h2.den).mono h3, ?_⟩
  rw [minus_cut]
  exact h
theorem rd_times : Rd 2 2 sp_times t_times := by
  rintro _ ⟨dk, ow⟩ R - ho ⟨p, q, a, b, d, rfl, hd, h1, h2, h3, h⟩
  cases ho
  rcases hd with rfl | ⟨rfl, rfl⟩
  rotate_left
  · simp only [t_times, sp_share, sRet, sSeq, sIf, sNext, sSet, sPar, sAsg, sFor, sNever, sCont, dVar, dC, dNeg, dBin, oI, oI0, oEq, oIx, dTst, dAndT, dOrT, dNotT, dAndV, dOrV, dNotV, dIfE, dNil, dCons, dTup, dLst, dIxN, dCall, dCB, oAt, oAbs, gdName, gdNil, gdCons, gdTup, startD, tYesD, dIsi, List.map, List.length, List.replicate, Nat.sub_self, Nat.reduceSub, Nat.reduceAdd, List.reduceReplicate, List.append_nil, List.nil_append, List.cons_append, List.getElem?_cons_zero, List.getElem?_cons_succ, List.set_cons_zero, List.set_cons_succ, if_true, if_false, Bool.not_true, Bool.not_false, Bool.false_eq_true, decide_true, decide_false, true_and, and_true]
    refine ⟨mulW h1.1 h2.1 (by omega), mulW h1.den h2.den (by omega), _, _, rfl, Int.mul_ne_zero (den_ne _) (by decide), (h1.den.mul h2.den).mono h3, ?_⟩
    have e := times_cut p 0
    rw [show ((0 : Rat).num) = 0 from rfl, show (((0 : Rat).den : Int)) = 1 from rfl] at e
    rw [e]
    exact h
  simp only [t_times, sp_share, sRet, sSeq, sIf, sNext, sSet, sPar, sAsg, sFor, sNever, sCont, dVar, dC, dNeg, dBin, oI, oI0, oEq, oIx, dTst, dAndT, dOrT, dNotT, dAndV, dOrV, dNotV, dIfE, dNil, dCons, dTup, dLst, dIxN, dCall, dCB, oAt, oAbs, gdName, gdNil, gdCons, gdTup, startD, tYesD, dIsi, List.map, List.length, List.replicate, Nat.sub_self, Nat.reduceSub, Nat.reduceAdd, List.reduceReplicate, List.append_nil, List.nil_append, List.cons_append, List.getElem?_cons_zero, List.getElem?_cons_succ, List.set_cons_zero, List.set_cons_succ, if_true, if_false, Bool.not_true, Bool.not_false, Bool.false_eq_true, decide_true, decide_false, true_and, and_true]
  refine ⟨mulW h1.1 h2.1 (by omega), mulW h1.den h2.den (by omega), _, _, rfl, Int.mul_ne_zero (den_ne _) (den_ne _), (h1.den.mul h2.den).mono h3, ?_⟩
  rw [times_cut]
  exact h
theorem rd_over : Rd 2 2 sp_over t_over := by
  rintro _ ⟨dk, ow⟩ R - ho ⟨p, q, a, b, rfl, hq, h1, h2, h3, h⟩
  cases ho
  have hq' : q.num ≠ 0 := fun e => hq ((num_zero q).mp e)
  simp only [t_over, sp_share, hq', sRet, sSeq, sIf, sNext, sSet, sPar, sAsg, sFor, sNever, sCont, dVar, dC, dNeg, dBin, oI, oI0, oEq, oIx, dTst, dAndT, dOrT, dNotT, dAndV, dOrV, dNotV, dIfE, dNil, dCons, dTup, dLst, dIxN, dCall, dCB, oAt, oAbs, gdName, gdNil, gdCons, gdTup, startD, tYesD, dIsi, List.map, List.length, List.replicate, Nat.sub_self, Nat.reduceSub, Nat.reduceAdd, List.reduceReplicate, List.append_nil, List.nil_append, List.cons_append, List.getElem?_cons_zero, List.getElem?_cons_succ, List.set_cons_zero, List.set_cons_succ, if_true, if_false, Bool.not_true, Bool.not_false, Bool.false_eq_true, decide_true, decide_false, true_and, and_true]
  refine ⟨mulW h1.1 h2.den (by omega), mulW h1.den h2.1 (by omega), _, _, rfl, Int.mul_ne_zero (den_ne _) hq', (h1.den.mul h2.1).mono h3, ?_⟩
  rw [over_cut _ _ hq']
  exact h
theorem rd_order : Rd 2 4 sp_order t_order := by
  rintro _ ⟨dk, ow⟩ R - ho ⟨p, q, a, b, rfl, h1, h2, h3, h⟩
  cases ho
  simp only [t_order, sRet, sSeq, sIf, sNext, sSet, sPar, sAsg, sFor, sNever, sCont, dVar, dC, dNeg, dBin, oI, oI0, oEq, oIx, dTst, dAndT, dOrT, dNotT, dAndV, dOrV, dNotV, dIfE, dNil, dCons, dTup, dLst, dIxN, dCall, dCB, oAt, oAbs, gdName, gdNil, gdCons, gdTup, startD, tYesD, dIsi, List.map, List.length, List.replicate, Nat.sub_self, Nat.reduceSub, Nat.reduceAdd, List.reduceReplicate, List.append_nil, List.nil_append, List.cons_append, List.getElem?_cons_zero, List.getElem?_cons_succ, List.set_cons_zero, List.set_cons_succ, if_true, if_false, Bool.not_true, Bool.not_false, Bool.false_eq_true, decide_true, decide_false, true_and, and_true]
  refine ⟨mulW h1.1 h2.den (by omega), mulW h2.1 h1.den (by omega), ?_⟩
  have a1 := order_lt p q
  have a2 := order_lt q p
  by_cases e : p.num * q.den = q.num * p.den
  · simp only [e, sRet, sSeq, sIf, sNext, sSet, sPar, sAsg, sFor, sNever, sCont, dVar, dC, dNeg, dBin, oI, oI0, oEq, oIx, dTst, dAndT, dOrT, dNotT, dAndV, dOrV, dNotV, dIfE, dNil, dCons, dTup, dLst, dIxN, dCall, dCB, oAt, oAbs, gdName, gdNil, gdCons, gdTup, startD, tYesD, dIsi, List.map, List.length, List.replicate, Nat.sub_self, Nat.reduceSub, Nat.reduceAdd, List.reduceReplicate, List.append_nil, List.nil_append, List.cons_append, List.getElem?_cons_zero, List.getElem?_cons_succ, List.set_cons_zero, List.set_cons_succ, if_true, if_false, Bool.not_true, Bool.not_false, Bool.false_eq_true, decide_true, decide_false, true_and, and_true]
    exact h 0 ⟨fun z => absurd z (by decide), fun z => by have := a1.mpr z; omega⟩ ⟨fun z => absurd z (by decide), fun z => by have := a2.mpr z; omega⟩
  · simp only [e, sRet, sSeq, sIf, sNext, sSet, sPar, sAsg, sFor, sNever, sCont, dVar, dC, dNeg, dBin, oI, oI0, oEq, oIx, dTst, dAndT, dOrT, dNotT, dAndV, dOrV, dNotV, dIfE, dNil, dCons, dTup, dLst, dIxN, dCall, dCB, oAt, oAbs, gdName, gdNil, gdCons, gdTup, startD, tYesD, dIsi, List.map, List.length, List.replicate, Nat.sub_self, Nat.reduceSub, Nat.reduceAdd, List.reduceReplicate, List.append_nil, List.nil_append, List.cons_append, List.getElem?_cons_zero, List.getElem?_cons_succ, List.set_cons_zero, List.set_cons_succ, if_true, if_false, Bool.not_true, Bool.not_false, Bool.false_eq_true, decide_true, decide_false, true_and, and_true]
    by_cases l : p.num * q.den < q.num * p.den
    · simp only [l, sRet, sSeq, sIf, sNext, sSet, sPar, sAsg, sFor, sNever, sCont, dVar, dC, dNeg, dBin, oI, oI0, oEq, oIx, dTst, dAndT, dOrT, dNotT, dAndV, dOrV, dNotV, dIfE, dNil, dCons, dTup, dLst, dIxN, dCall, dCB, oAt, oAbs, gdName, gdNil, gdCons, gdTup, startD, tYesD, dIsi, List.map, List.length, List.replicate, Nat.sub_self, Nat.reduceSub, Nat.reduceAdd, List.reduceReplicate, List.append_nil, List.nil_append, List.cons_append, List.getElem?_cons_zero, List.getElem?_cons_succ, List.set_cons_zero, List.set_cons_succ, if_true, if_false, Bool.not_true, Bool.not_false, Bool.false_eq_true, decide_true, decide_false, true_and, and_true]
      exact h (-1) ⟨fun _ => a1.mp l, fun _ => by decide⟩ ⟨fun z => absurd z (by decide), fun z => by have := a2.mpr z; omega⟩
    · simp only [l, sRet, sSeq, sIf, sNext, sSet, sPar, sAsg, sFor, sNever, sCont, dVar, dC, dNeg, dBin, oI, oI0, oEq, oIx, dTst, dAndT, dOrT, dNotT, dAndV, dOrV, dNotV, dIfE, dNil, dCons, dTup, dLst, dIxN, dCall, dCB, oAt, oAbs, gdName, gdNil, gdCons, gdTup, startD, tYesD, dIsi, List.map, List.length, List.replicate, Nat.sub_self, Nat.reduceSub, Nat.reduceAdd, List.reduceReplicate, List.append_nil, List.nil_append, List.cons_append, List.getElem?_cons_zero, List.getElem?_cons_succ, List.set_cons_zero, List.set_cons_succ, if_true, if_false, Bool.not_true, Bool.not_false, Bool.false_eq_true, decide_true, decide_false, true_and, and_true]
      exact h 1 ⟨fun z => absurd z (by decide), fun z => by have := a1.mpr z; omega⟩ ⟨fun z => a2.mp (by omega), fun _ => by decide⟩
theorem gcd_num (q : Rat) : Int.gcd q.num (q.den : Int) = 1 := by
  have := q.reduced
  unfold Nat.Coprime at this
  unfold Int.gcd
  simpa using this
theorem rd_is_share : Rd 1 1 sp_is_share t_is_share := by
  rintro _ ⟨dk, ow⟩ R - ho ⟨⟨q, rfl⟩, h⟩
  cases ho
  have e : ¬ ((q.den : Int) < 1) := by have := den_pos q; omega
  simp only [t_is_share, oLen, sp_is_whole, sp_divisor, e, sRet, sSeq, sIf, sNext, sSet, sPar, sAsg, sFor, sNever, sCont, dVar, dC, dNeg, dBin, oI, oI0, oEq, oIx, dTst, dAndT, dOrT, dNotT, dAndV, dOrV, dNotV, dIfE, dNil, dCons, dTup, dLst, dIxN, dCall, dCB, oAt, oAbs, gdName, gdNil, gdCons, gdTup, startD, tYesD, dIsi, List.map, List.length, List.replicate, Nat.sub_self, Nat.reduceSub, Nat.reduceAdd, List.reduceReplicate, List.append_nil, List.nil_append, List.cons_append, List.getElem?_cons_zero, List.getElem?_cons_succ, List.set_cons_zero, List.set_cons_succ, if_true, if_false, Bool.not_true, Bool.not_false, Bool.false_eq_true, decide_true, decide_false, true_and, and_true]
  refine ⟨⟨_, rfl⟩, ⟨_, rfl⟩, _, _, rfl, ?_⟩
  rw [gcd_num]
  exact h
end K23
/-! loops and comprehensions, over lists of any length -/
namespace K23
open PySem PySem.Spec PyProof.Rows L2
theorem lc_rule {vs : List Nat} {g : DTg} {tt : DTt} {te : DT} {R : D → M → Prop} {ds : DEnv} {ow : Option (Addr × List D)} (I : List D → List D → Option Dk → Prop)
    (step : ∀ x xs acc k (J : List D → Option Dk → Prop), I (x :: xs) acc k → (∀ acc' k', I xs acc' k' → J acc' k') → g x (wipeD ds vs) fun ds1 => tt ds1 ⟨k, none⟩ fun b m1 => if b = true then te ds1 m1 fun y m2 => acc.length < 100000 ∧ J (acc ++ [y]) m2.dk else J acc m1.dk)
    (fin : ∀ acc k, I [] acc k → R (.lst acc) ⟨k, ow⟩) : ∀ items acc k, I items acc k → dLcL vs g tt te R ds ow items acc k
  | [], acc, k, h => fin acc k h
  | x :: xs, acc, k, h => step x xs acc k (dLcL vs g tt te R ds ow xs) h fun acc' k' h' => lc_rule I step fin xs acc' k' h'
theorem loop_rule {g : DTg} {tb : DTS} {E : DEnds} (I : List D → DEnv → M → Prop)
    (step : ∀ x xs ds m (J : DEnv → M → Prop), I (x :: xs) ds m → (∀ ds' m', I xs ds' m' → J ds' m') → g x ds fun ds1 => tb ⟨J, E.rt, E.nx, J⟩ ds1 m)
    (fin : ∀ ds m, I [] ds m → E.nx ds m) : ∀ items ds m, I items ds m → dLoop g tb E items ds m
  | [], ds, m, h => fin ds m h
  | x :: xs, ds, m, h => step x xs ds m (dLoop g tb E xs) h fun ds' m' h' => loop_rule I step fin xs ds' m' h'
/-- each item turned to one value -/
theorem lc_map {α : Type} {vs : List Nat} {g : DTg} {te : DT} {R : D → M → Prop} {ds : DEnv} {ow : Option (Addr × List D)} {k : Option Dk} (all : List α) (f h : α → D) (hl : all.length ≤ 100000)
    (one : ∀ x ∈ all, ∀ (J : D → M → Prop), J (h x) ⟨k, none⟩ → g (f x) (wipeD ds vs) fun ds1 => te ds1 ⟨k, none⟩ J)
    (fin : R (.lst (all.map h)) ⟨k, ow⟩) : dLcL vs g tYesD te R ds ow (all.map f) [] k := by
  refine lc_rule (fun items acc k' => ∃ done todo, all = done ++ todo ∧ items = todo.map f ∧ acc = done.map h ∧ k' = k) ?_ ?_ _ _ _ ⟨[], all, rfl, rfl, rfl, rfl⟩
  · rintro x xs acc _ J ⟨done, todo, e1, e2, rfl, rfl⟩ hJ
    cases todo with
    | nil => cases e2
    | cons y todo =>
      cases e2
      have my : y ∈ all := by rw [e1]; simp
      unfold tYesD
      simp only [if_true]
      refine one y my (fun d m2 => (done.map h).length < 100000 ∧ J (done.map h ++ [d]) m2.dk) ⟨?_, hJ _ _ ⟨done ++ [y], todo, by rw [e1]; simp, rfl, by simp, rfl⟩⟩
      rw [e1] at hl
      simp at hl ⊢
      omega
  · rintro acc k' ⟨done, todo, e1, e2, rfl, rfl⟩
    cases todo with
    | nil => rw [List.append_nil] at e1; rw [← e1]; exact fin
    | cons y todo => cases e2
/-- .. those kept -/
theorem lc_filter {α : Type} {vs : List Nat} {g : DTg} {tt : DTt} {te : DT} {R : D → M → Prop} {ds : DEnv} {ow : Option (Addr × List D)} {k : Option Dk} (all : List α) (f h : α → D) (p : α → Bool) (hl : all.length ≤ 100000)
    (one : ∀ x ∈ all, ∀ (J : D → M → Prop) (N : M → Prop), (p x = true → J (h x) ⟨k, none⟩) → (p x = false → N ⟨k, none⟩) → g (f x) (wipeD ds vs) fun ds1 => tt ds1 ⟨k, none⟩ fun b m1 => if b = true then te ds1 m1 J else N m1)
    (fin : R (.lst ((all.filter p).map h)) ⟨k, ow⟩) : dLcL vs g tt te R ds ow (all.map f) [] k := by
  refine lc_rule (fun items acc k' => ∃ done todo, all = done ++ todo ∧ items = todo.map f ∧ acc = (done.filter p).map h ∧ k' = k) ?_ ?_ _ _ _ ⟨[], all, rfl, rfl, rfl, rfl⟩
  · rintro x xs acc _ J ⟨done, todo, e1, e2, rfl, rfl⟩ hJ
    cases todo with
    | nil => cases e2
    | cons y todo =>
      cases e2
      have my : y ∈ all := by rw [e1]; simp
      have hz : ((done.filter p).map h).length < 100000 := by
        have := List.length_filter_le p done
        rw [e1] at hl
        simp at hl ⊢
        omega
      refine one y my (fun d m2 => ((done.filter p).map h).length < 100000 ∧ J ((done.filter p).map h ++ [d]) m2.dk) (fun m1 => J ((done.filter p).map h) m1.dk) (fun hp => ⟨hz, hJ _ _ ⟨done ++ [y], todo, by rw [e1]; simp, rfl, by simp [hp], rfl⟩⟩) (fun hp => hJ _ _ ⟨done ++ [y], todo, by rw [e1]; simp, rfl, by simp [hp], rfl⟩)
  · rintro acc k' ⟨done, todo, e1, e2, rfl, rfl⟩
    cases todo with
    | nil => rw [List.append_nil] at e1; rw [← e1]; exact fin
    | cons y todo => cases e2
end K23
/-! the readings keep the promises: ways, spots, shapes -/
namespace K23
open PySem PySem.Spec PyProof.Rows L2
theorem rd_is_way : Rd 1 2 sp_is_way t_is_way := by
  rintro _ ⟨dk, ow⟩ R - ho ⟨w, rfl, h⟩
  cases ho
  simp only [t_is_way, oLen, sp_is_whole, sp_divisor, dLc, dLcL, iTupD, wipeD, sRet, sSeq, sIf, sNext, sSet, sPar, sAsg, sFor, sNever, sCont, dVar, dC, dNeg, dBin, oI, oI0, oEq, oIx, dTst, dAndT, dOrT, dNotT, dAndV, dOrV, dNotV, dIfE, dNil, dCons, dTup, dLst, dIxN, dCall, dCB, oAt, oAbs, gdName, gdNil, gdCons, gdTup, startD, tYesD, dIsi, List.map, List.length, List.replicate, Nat.sub_self, Nat.reduceSub, Nat.reduceAdd, List.reduceReplicate, List.append_nil, List.nil_append, List.cons_append, List.getElem?_cons_zero, List.getElem?_cons_succ, List.set_cons_zero, List.set_cons_succ, if_true, if_false, Bool.not_true, Bool.not_false, Bool.false_eq_true, decide_true, decide_false, true_and, and_true]
  simp only [oEq, if_true, ne_eq, reduceCtorEq, not_false_eq_true, Nat.reduceAdd, Int.cast_ofNat_Int, decide_true, Bool.not_true, Bool.false_eq_true, if_false, sRet, sSeq, sIf, sNext, sSet, sPar, sAsg, sFor, sNever, sCont, dVar, dC, dNeg, dBin, oI, oI0, oEq, oIx, dTst, dAndT, dOrT, dNotT, dAndV, dOrV, dNotV, dIfE, dNil, dCons, dTup, dLst, dIxN, dCall, dCB, oAt, oAbs, gdName, gdNil, gdCons, gdTup, startD, tYesD, dIsi, List.map, List.length, List.replicate, Nat.sub_self, Nat.reduceSub, Nat.reduceAdd, List.reduceReplicate, List.append_nil, List.nil_append, List.cons_append, List.getElem?_cons_zero, List.getElem?_cons_succ, List.set_cons_zero, List.set_cons_succ, if_true, if_false, Bool.not_true, Bool.not_false, Bool.false_eq_true, decide_true, decide_false, true_and, and_true]
  refine ⟨⟨_, rfl⟩, by decide, ⟨_, rfl⟩, by decide, [true, true], rfl, ?_⟩
  simp only [List.all_cons, List.all_nil, id, Bool.and_self, Bool.not_true, Bool.false_eq_true, if_false]
  refine ⟨_, _, rfl, ?_⟩
  have e : ((Int.gcd w.1 w.2 : Int) = 1) ↔ (Int.gcd w.1 w.2 = 1) := by omega
  simp only [e]
  exact h
theorem gB_of {p q : Int} (hz : p ≠ 0 ∨ q ≠ 0) (h1 : B 8990 p) (h2 : B 8990 q) : B 8990 (Int.gcd p q : Int) := by
  unfold B at *
  simp only [Int.natAbs_natCast]
  rcases hz with z | z
  · have : Int.gcd p q ≤ p.natAbs := Nat.gcd_le_left _ (by omega)
    omega
  · have : Int.gcd p q ≤ q.natAbs := Nat.gcd_le_right _ (by omega)
    omega
theorem rd_way_of : Rd 2 3 sp_way_of t_way_of := by
  rintro _ ⟨dk, ow⟩ R - ho ⟨p, q, rfl, hz, h1, h2, h⟩
  cases ho
  simp only [t_way_of, sp_divisor, sRet, sSeq, sIf, sNext, sSet, sPar, sAsg, sFor, sNever, sCont, dVar, dC, dNeg, dBin, oI, oI0, oEq, oIx, dTst, dAndT, dOrT, dNotT, dAndV, dOrV, dNotV, dIfE, dNil, dCons, dTup, dLst, dIxN, dCall, dCB, oAt, oAbs, gdName, gdNil, gdCons, gdTup, startD, tYesD, dIsi, List.map, List.length, List.replicate, Nat.sub_self, Nat.reduceSub, Nat.reduceAdd, List.reduceReplicate, List.append_nil, List.nil_append, List.cons_append, List.getElem?_cons_zero, List.getElem?_cons_succ, List.set_cons_zero, List.set_cons_succ, if_true, if_false, Bool.not_true, Bool.not_false, Bool.false_eq_true, decide_true, decide_false, true_and, and_true]
  have hg := gcd_pos hz
  have gB := gB_of hz h1 h2
  refine ⟨_, _, rfl, ?_⟩
  have e : ¬ ((Int.gcd p q : Int) = 0) := by omega
  simp only [e, sRet, sSeq, sIf, sNext, sSet, sPar, sAsg, sFor, sNever, sCont, dVar, dC, dNeg, dBin, oI, oI0, oEq, oIx, dTst, dAndT, dOrT, dNotT, dAndV, dOrV, dNotV, dIfE, dNil, dCons, dTup, dLst, dIxN, dCall, dCB, oAt, oAbs, gdName, gdNil, gdCons, gdTup, startD, tYesD, dIsi, List.map, List.length, List.replicate, Nat.sub_self, Nat.reduceSub, Nat.reduceAdd, List.reduceReplicate, List.append_nil, List.nil_append, List.cons_append, List.getElem?_cons_zero, List.getElem?_cons_succ, List.set_cons_zero, List.set_cons_succ, if_true, if_false, Bool.not_true, Bool.not_false, Bool.false_eq_true, decide_true, decide_false, true_and, and_true]
  refine ⟨divZ e gB (by decide) (by decide), divZ e gB (by decide) (by decide), ?_⟩
  rw [fdiv_g _ hg, fdiv_g _ hg]
  exact h
theorem rd_along : Rd 2 6 sp_along t_along := by
  rintro _ ⟨dk, ow⟩ R - ho ⟨w, z, k, n, rfl, hw, hz, hn, hk, h⟩
  cases ho
  simp only [t_along, sp_share, sRet, sSeq, sIf, sNext, sSet, sPar, sAsg, sFor, sNever, sCont, dVar, dC, dNeg, dBin, oI, oI0, oEq, oIx, dTst, dAndT, dOrT, dNotT, dAndV, dOrV, dNotV, dIfE, dNil, dCons, dTup, dLst, dIxN, dCall, dCB, oAt, oAbs, gdName, gdNil, gdCons, gdTup, startD, tYesD, dIsi, List.map, List.length, List.replicate, Nat.sub_self, Nat.reduceSub, Nat.reduceAdd, List.reduceReplicate, List.append_nil, List.nil_append, List.cons_append, List.getElem?_cons_zero, List.getElem?_cons_succ, List.set_cons_zero, List.set_cons_succ, if_true, if_false, Bool.not_true, Bool.not_false, Bool.false_eq_true, decide_true, decide_false, true_and, and_true]
  refine ⟨mulW hw.1 hz.1.1 (by omega), mulW (hw.1.mul hz.1.1) hz.2.den (by omega), mulW hw.2 hz.2.1 (by omega), mulW (hw.2.mul hz.2.1) hz.1.den (by omega), mulW hz.1.den hz.2.den (by omega), _, _, rfl, along_ne z, (hz.1.den.mul hz.2.den).mono (by omega), ?_⟩
  rw [along_cut]
  exact h
theorem rd_spot_minus : Rd 2 4 sp_spot_minus t_spot_minus := by
  rintro _ ⟨dk, ow⟩ R - ho ⟨x, y, a, b, rfl, hx, hy, hn, h⟩
  cases ho
  simp only [t_spot_minus, sp_minus, dLc, iZipD, oZip, List.zipWith, dLcL, wipeD, oTuple, sRet, sSeq, sIf, sNext, sSet, sPar, sAsg, sFor, sNever, sCont, dVar, dC, dNeg, dBin, oI, oI0, oEq, oIx, dTst, dAndT, dOrT, dNotT, dAndV, dOrV, dNotV, dIfE, dNil, dCons, dTup, dLst, dIxN, dCall, dCB, oAt, oAbs, gdName, gdNil, gdCons, gdTup, startD, tYesD, dIsi, List.map, List.length, List.replicate, Nat.sub_self, Nat.reduceSub, Nat.reduceAdd, List.reduceReplicate, List.append_nil, List.nil_append, List.cons_append, List.getElem?_cons_zero, List.getElem?_cons_succ, List.set_cons_zero, List.set_cons_succ, if_true, if_false, Bool.not_true, Bool.not_false, Bool.false_eq_true, decide_true, decide_false, true_and, and_true]
  exact ⟨_, _, a, b, rfl, hx.1, hy.1, hn, by decide, _, _, a, b, rfl, hx.2, hy.2, hn, by decide, h⟩
theorem rd_turned_way : Rd 1 1 sp_turned_way t_turned_way := by
  rintro _ ⟨dk, ow⟩ R - ho ⟨w, rfl, h⟩
  cases ho
  simp only [t_turned_way, sRet, sSeq, sIf, sNext, sSet, sPar, sAsg, sFor, sNever, sCont, dVar, dC, dNeg, dBin, oI, oI0, oEq, oIx, dTst, dAndT, dOrT, dNotT, dAndV, dOrV, dNotV, dIfE, dNil, dCons, dTup, dLst, dIxN, dCall, dCB, oAt, oAbs, gdName, gdNil, gdCons, gdTup, startD, tYesD, dIsi, List.map, List.length, List.replicate, Nat.sub_self, Nat.reduceSub, Nat.reduceAdd, List.reduceReplicate, List.append_nil, List.nil_append, List.cons_append, List.getElem?_cons_zero, List.getElem?_cons_succ, List.set_cons_zero, List.set_cons_succ, if_true, if_false, Bool.not_true, Bool.not_false, Bool.false_eq_true, decide_true, decide_false, true_and, and_true]
  exact h
theorem rd_rate : Rd 3 3 sp_rate t_rate := by
  rintro _ ⟨dk, ow⟩ R - ho ⟨a, b, w, k, rfl, hp, hw, hk, h⟩
  cases ho
  simp only [t_rate, sp_spot_minus, sp_along, sRet, sSeq, sIf, sNext, sSet, sPar, sAsg, sFor, sNever, sCont, dVar, dC, dNeg, dBin, oI, oI0, oEq, oIx, dTst, dAndT, dOrT, dNotT, dAndV, dOrV, dNotV, dIfE, dNil, dCons, dTup, dLst, dIxN, dCall, dCB, oAt, oAbs, gdName, gdNil, gdCons, gdTup, startD, tYesD, dIsi, List.map, List.length, List.replicate, Nat.sub_self, Nat.reduceSub, Nat.reduceAdd, List.reduceReplicate, List.append_nil, List.nil_append, List.cons_append, List.getElem?_cons_zero, List.getElem?_cons_succ, List.set_cons_zero, List.set_cons_succ, if_true, if_false, Bool.not_true, Bool.not_false, Bool.false_eq_true, decide_true, decide_false, true_and, and_true]
  obtain ⟨i, j, h1, h2, h3⟩ := hp.sp
  have hf : Bs 921 (subQ b.o.speed a.o.speed) := ⟨(Bq_minus h2.1 h1.1).mono (by omega), (Bq_minus h2.2 h1.2).mono (by omega)⟩
  exact ⟨_, _, j, i, rfl, h2, h1, by omega, _, _, k, 921, rfl, hw, hf, by omega, by omega, h⟩
theorem far_Bs {a b : Bo} (hp : PairOk a b) : Bs 461 (far a b) := by
  obtain ⟨i, j, h1, h2, h3⟩ := hp.pl
  exact ⟨(Bq_minus h2.1 h1.1).mono (by omega), (Bq_minus h2.2 h1.2).mono (by omega)⟩
theorem fast_Bs {a b : Bo} (hp : PairOk a b) : Bs 921 (fast a b) := by
  obtain ⟨i, j, h1, h2, h3⟩ := hp.sp
  exact ⟨(Bq_minus h2.1 h1.1).mono (by omega), (Bq_minus h2.2 h1.2).mono (by omega)⟩
theorem reach_B {cs : List P2} (h : Good cs) {w : P2} {k : Nat} (hw : BW k w) : B (k + 22) (reachM cs w) := by
  obtain ⟨c, hc, e⟩ := reach_mem w h.ne
  rw [e]
  have hs := h.small c hc
  exact ((hw.1.mul hs.1).add (hw.2.mul hs.2)).mono (by omega)
theorem shut_B {a b : Bo} (hp : PairOk a b) {w : P2} {k : Nat} (hw : BW k w) : B (k + 23) (shut a b w) := ((reach_B hp.ga hw).add (reach_B hp.gb hw.neg)).mono (by omega)
theorem rate_Bq {a b : Bo} (hp : PairOk a b) {w : P2} {k : Nat} (hw : BW k w) : Bq (k + 1843) (rateT a b w) := (Bq_along hw (fast_Bs hp)).mono (by omega)
theorem gap0_Bq {a b : Bo} (hp : PairOk a b) {w : P2} {k : Nat} (hw : BW k w) : Bq (2 * k + 948) (dq w (far a b) - (shut a b w : Rat)) :=
  (Bq_minus (Bq_along hw (far_Bs hp)) (Bq_int (shut_B hp hw) (by omega))).mono (by omega)
theorem gap_Bq {a b : Bo} (hp : PairOk a b) {w : P2} {k n : Nat} {t : Rat} (hw : BW k w) (ht : Bq n t) : Bq (3 * k + 2792 + n) (gapT a b w t) :=
  (Bq_plus (gap0_Bq hp hw) (Bq_times (rate_Bq hp hw) ht)).mono (by omega)
theorem rd_gap : Rd 4 6 sp_gap t_gap := by
  rintro _ ⟨dk, ow⟩ R - ho ⟨a, b, w, t, k, n, d, rfl, hd, hp, hw, ht, hk, h⟩
  cases ho
  simp only [t_gap, sp_spot_minus, sp_along, sp_reach, sp_turned_way, sp_plus, sp_minus, sp_times, sp_rate, sRet, sSeq, sIf, sNext, sSet, sPar, sAsg, sFor, sNever, sCont, dVar, dC, dNeg, dBin, oI, oI0, oEq, oIx, dTst, dAndT, dOrT, dNotT, dAndV, dOrV, dNotV, dIfE, dNil, dCons, dTup, dLst, dIxN, dCall, dCB, oAt, oAbs, gdName, gdNil, gdCons, gdTup, startD, tYesD, dIsi, List.map, List.length, List.replicate, Nat.sub_self, Nat.reduceSub, Nat.reduceAdd, List.reduceReplicate, List.append_nil, List.nil_append, List.cons_append, List.getElem?_cons_zero, List.getElem?_cons_succ, List.set_cons_zero, List.set_cons_succ, if_true, if_false, Bool.not_true, Bool.not_false, Bool.false_eq_true, decide_true, decide_false, true_and, and_true]
  obtain ⟨i, j, h1, h2, h3⟩ := hp.pl
  have hf := far_Bs hp
  unfold gapT at h
  unfold far at h hf
  refine ⟨b.o.place, a.o.place, j, i, rfl, h2, h1, by omega, w, subQ b.o.place a.o.place, k, 461, rfl, hw, hf, by omega, by omega, a.o.cs, w, k, rfl, hp.ga, hw, by omega, w, rfl, b.o.cs, neg w, k, rfl, hp.gb, hw.neg, by omega, ?_⟩
  have q1 : Bq (k + 923) (dq w (subQ b.o.place a.o.place)) := (Bq_along hw hf).mono (by omega)
  have q2 : Bq (k + 23) ((shut a.o b.o w : Int) : Rat) := Bq_int (shut_B hp hw) (by omega)
  have q3 : dQ ((shut a.o b.o w : Int) : Rat) = .tup [.int (reachM a.o.cs w + reachM b.o.cs (neg w)), .int 1] := by
    show D.tup [.int ((shut a.o b.o w : Int) : Rat).num, .int (((shut a.o b.o w : Int) : Rat).den : Int)] = _
    rw [Rat.num_intCast, Rat.den_intCast]
    unfold shut
    rfl
  rw [← q3]
  generalize hz : ((shut a.o b.o w : Int) : Rat) = z at *
  refine ⟨dq w (subQ b.o.place a.o.place), z, k + 923, k + 23, rfl, q1, q2, by omega, ?_⟩
  refine ⟨a, b, w, k, rfl, hp, hw, by omega, ?_⟩
  refine ⟨rateT a.o b.o w, t, k + 1843, n, d, rfl, hd, rate_Bq hp hw, ht, by omega, ?_⟩
  refine ⟨dq w (subQ b.o.place a.o.place) - z, rateT a.o b.o w * t, 2 * k + 948, k + 1843 + n, rfl, ?_, Bq_times (rate_Bq hp hw) ht, by omega, h⟩
  rw [← hz]
  exact gap0_Bq hp hw
theorem rd_reach : Rd 2 4 sp_reach t_reach := by
  rintro _ ⟨dk, ow⟩ R - ho ⟨cs, w, k, rfl, hg, hw, hk, h⟩
  cases ho
  simp only [t_reach, dLc, iTupD, sRet, sSeq, sIf, sNext, sSet, sPar, sAsg, sFor, sNever, sCont, dVar, dC, dNeg, dBin, oI, oI0, oEq, oIx, dTst, dAndT, dOrT, dNotT, dAndV, dOrV, dNotV, dIfE, dNil, dCons, dTup, dLst, dIxN, dCall, dCB, oAt, oAbs, gdName, gdNil, gdCons, gdTup, startD, tYesD, dIsi, List.map, List.length, List.replicate, Nat.sub_self, Nat.reduceSub, Nat.reduceAdd, List.reduceReplicate, List.append_nil, List.nil_append, List.cons_append, List.getElem?_cons_zero, List.getElem?_cons_succ, List.set_cons_zero, List.set_cons_succ, if_true, if_false, Bool.not_true, Bool.not_false, Bool.false_eq_true, decide_true, decide_false, true_and, and_true]
  refine lc_map cs dPr (fun c => .int (dot w c)) (Nat.le_trans hg.hi (by decide)) ?_ ?_
  · intro c hc J hJ
    have hs := hg.small c hc
    simp only [wipeD, sRet, sSeq, sIf, sNext, sSet, sPar, sAsg, sFor, sNever, sCont, dVar, dC, dNeg, dBin, oI, oI0, oEq, oIx, dTst, dAndT, dOrT, dNotT, dAndV, dOrV, dNotV, dIfE, dNil, dCons, dTup, dLst, dIxN, dCall, dCB, oAt, oAbs, gdName, gdNil, gdCons, gdTup, startD, tYesD, dIsi, List.map, List.length, List.replicate, Nat.sub_self, Nat.reduceSub, Nat.reduceAdd, List.reduceReplicate, List.append_nil, List.nil_append, List.cons_append, List.getElem?_cons_zero, List.getElem?_cons_succ, List.set_cons_zero, List.set_cons_succ, if_true, if_false, Bool.not_true, Bool.not_false, Bool.false_eq_true, decide_true, decide_false, true_and, and_true]
    exact ⟨mulW hw.1 hs.1 (by omega), mulW hw.2 hs.2 (by omega), hJ⟩
  · refine ⟨cs.map (dot w), by rw [List.map_map]; rfl, by rw [List.length_map]; have := hg.lo; omega, fun k h1 h2 => ?_⟩
    obtain ⟨c, hc, rfl⟩ := List.mem_map.mp h1
    rw [reach_uniq (cs := cs) (w := w) ⟨c, hc, rfl⟩ fun d hd => h2 _ (List.mem_map.mpr ⟨d, hd, rfl⟩)]
    exact h
theorem rd_upright_ways : Rd 2 8 sp_upright_ways t_upright_ways := by
  rintro _ ⟨dk, ow⟩ R - ho ⟨a, b, rfl, hp, h⟩
  cases ho
  simp only [t_upright_ways, sp_spot_minus, sp_way_of, sRet, sSeq, sIf, sNext, sSet, sPar, sAsg, sFor, sNever, sCont, dVar, dC, dNeg, dBin, oI, oI0, oEq, oIx, dTst, dAndT, dOrT, dNotT, dAndV, dOrV, dNotV, dIfE, dNil, dCons, dTup, dLst, dIxN, dCall, dCB, oAt, oAbs, gdName, gdNil, gdCons, gdTup, startD, tYesD, dIsi, List.map, List.length, List.replicate, Nat.sub_self, Nat.reduceSub, Nat.reduceAdd, List.reduceReplicate, List.append_nil, List.nil_append, List.cons_append, List.getElem?_cons_zero, List.getElem?_cons_succ, List.set_cons_zero, List.set_cons_succ, if_true, if_false, Bool.not_true, Bool.not_false, Bool.false_eq_true, decide_true, decide_false, true_and, and_true]
  obtain ⟨i, j, h1, h2, h3⟩ := hp.sp
  refine ⟨_, _, j, i, rfl, h2, h1, by omega, ?_⟩
  have hf := fast_Bs hp
  show (if decide ((fast a.o b.o).1.num = 0) = true then _ else _)
  have z : ∀ q : Rat, q.num = 0 ↔ q = 0 := num_zero
  by_cases e1 : (fast a.o b.o).1.num = 0 ∧ (fast a.o b.o).2.num = 0
  · have e2 : fast a.o b.o = (0, 0) := Prod.ext ((z _).mp e1.1) ((z _).mp e1.2)
    have e3 : (subQ b.o.speed a.o.speed).2.num = 0 := e1.2
    simp only [e1.1, e3, sRet, sSeq, sIf, sNext, sSet, sPar, sAsg, sFor, sNever, sCont, dVar, dC, dNeg, dBin, oI, oI0, oEq, oIx, dTst, dAndT, dOrT, dNotT, dAndV, dOrV, dNotV, dIfE, dNil, dCons, dTup, dLst, dIxN, dCall, dCB, oAt, oAbs, gdName, gdNil, gdCons, gdTup, startD, tYesD, dIsi, List.map, List.length, List.replicate, Nat.sub_self, Nat.reduceSub, Nat.reduceAdd, List.reduceReplicate, List.append_nil, List.nil_append, List.cons_append, List.getElem?_cons_zero, List.getElem?_cons_succ, List.set_cons_zero, List.set_cons_succ, if_true, if_false, Bool.not_true, Bool.not_false, Bool.false_eq_true, decide_true, decide_false, true_and, and_true]
    exact h [] (.inl ⟨e2, rfl⟩)
  · have e2 : fast a.o b.o ≠ (0, 0) := fun e => e1 (by rw [e]; exact ⟨rfl, rfl⟩)
    have hb1 : B 1842 (-(fast a.o b.o).2.num * (fast a.o b.o).1.den) := (hf.2.1.neg.mul hf.1.den).mono (by omega)
    have hb2 : B 1842 ((fast a.o b.o).1.num * (fast a.o b.o).2.den) := (hf.1.1.mul hf.2.den).mono (by omega)
    have hz : -(fast a.o b.o).2.num * (fast a.o b.o).1.den ≠ 0 ∨ (fast a.o b.o).1.num * (fast a.o b.o).2.den ≠ 0 := by
      by_cases q : (fast a.o b.o).1.num = 0
      · left
        exact Int.mul_ne_zero (fun y => e1 ⟨q, by omega⟩) (den_ne _)
      · right
        exact Int.mul_ne_zero q (den_ne _)
    have fin : CMulW (-(fast a.o b.o).2.num) (fast a.o b.o).1.den ∧ CMulW (fast a.o b.o).1.num (fast a.o b.o).2.den ∧ ∃ p q, [D.int (-(fast a.o b.o).2.num * (fast a.o b.o).1.den), D.int ((fast a.o b.o).1.num * (fast a.o b.o).2.den)] = [.int p, .int q] ∧ (p ≠ 0 ∨ q ≠ 0) ∧ B 8990 p ∧ B 8990 q ∧ R (.lst [dPr (wayM p q), dPr (neg (wayM p q))]) ⟨dk, none⟩ := by
      refine ⟨mulW hf.2.1.neg hf.1.den (by decide), mulW hf.1.1 hf.2.den (by decide), _, _, rfl, hz, hb1.mono (by decide), hb2.mono (by decide), ?_⟩
      have hg := gcd_pos hz
      refine h [_, _] (.inr ⟨e2, _, rfl, ?_, ?_, ?_, ⟨(B_div hb1 hg).mono (by decide), (B_div hb2 hg).mono (by decide)⟩⟩)
      · exact cut_ne hz
      · exact cut_gcd hz
      · obtain ⟨g, hg0, g1, g2⟩ := cut_scale hz
        have k0 : dq (-(fast a.o b.o).2.num * (fast a.o b.o).1.den, (fast a.o b.o).1.num * (fast a.o b.o).2.den) (fast a.o b.o) = 0 := by
          have s1 := self_cut (fast a.o b.o).1
          have s2 := self_cut (fast a.o b.o).2
          have n1 : (((fast a.o b.o).1.den : Int) : Rat) ≠ 0 := fun y => den_ne _ (Rat.intCast_eq_zero_iff.mp y)
          have n2 : (((fast a.o b.o).2.den : Int) : Rat) ≠ 0 := fun y => den_ne _ (Rat.intCast_eq_zero_iff.mp y)
          unfold dq
          push_cast at *
          grind
        rw [dq_scale (w := (_, _)) g1 g2] at k0
        rcases Rat.mul_eq_zero.mp k0 with y | y
        · have := Rat.intCast_eq_zero_iff.mp y
          omega
        · exact y
    by_cases q : (fast a.o b.o).1.num = 0
    · have q2 : ¬ (fast a.o b.o).2.num = 0 := fun y => e1 ⟨q, y⟩
      have q3 : ¬ (subQ b.o.speed a.o.speed).2.num = 0 := q2
      simp only [q, q3, sRet, sSeq, sIf, sNext, sSet, sPar, sAsg, sFor, sNever, sCont, dVar, dC, dNeg, dBin, oI, oI0, oEq, oIx, dTst, dAndT, dOrT, dNotT, dAndV, dOrV, dNotV, dIfE, dNil, dCons, dTup, dLst, dIxN, dCall, dCB, oAt, oAbs, gdName, gdNil, gdCons, gdTup, startD, tYesD, dIsi, List.map, List.length, List.replicate, Nat.sub_self, Nat.reduceSub, Nat.reduceAdd, List.reduceReplicate, List.append_nil, List.nil_append, List.cons_append, List.getElem?_cons_zero, List.getElem?_cons_succ, List.set_cons_zero, List.set_cons_succ, if_true, if_false, Bool.not_true, Bool.not_false, Bool.false_eq_true, decide_true, decide_false, true_and, and_true]
      exact fin
    · simp only [q, sRet, sSeq, sIf, sNext, sSet, sPar, sAsg, sFor, sNever, sCont, dVar, dC, dNeg, dBin, oI, oI0, oEq, oIx, dTst, dAndT, dOrT, dNotT, dAndV, dOrV, dNotV, dIfE, dNil, dCons, dTup, dLst, dIxN, dCall, dCB, oAt, oAbs, gdName, gdNil, gdCons, gdTup, startD, tYesD, dIsi, List.map, List.length, List.replicate, Nat.sub_self, Nat.reduceSub, Nat.reduceAdd, List.reduceReplicate, List.append_nil, List.nil_append, List.cons_append, List.getElem?_cons_zero, List.getElem?_cons_succ, List.set_cons_zero, List.set_cons_succ, if_true, if_false, Bool.not_true, Bool.not_false, Bool.false_eq_true, decide_true, decide_false, true_and, and_true]
      exact fin
end K23
/-! the readings keep the promises: the law's own sums -/
namespace K23
open PySem PySem.Spec PyProof.Rows L2
theorem rd_gcdL : Rd 2 3 sp_gcdL t_gcdL := by
  rintro _ ⟨dk, ow⟩ R - ho ⟨i, j, rfl, h⟩
  cases ho
  simp only [t_gcdL, sWhile, sRet, sSeq, sIf, sNext, sSet, sPar, sAsg, sFor, sNever, sCont, dVar, dC, dNeg, dBin, oI, oI0, oEq, oIx, dTst, dAndT, dOrT, dNotT, dAndV, dOrV, dNotV, dIfE, dNil, dCons, dTup, dLst, dIxN, dCall, dCB, oAt, oAbs, gdName, gdNil, gdCons, gdTup, startD, tYesD, dIsi, List.map, List.length, List.replicate, Nat.sub_self, Nat.reduceSub, Nat.reduceAdd, List.reduceReplicate, List.append_nil, List.nil_append, List.cons_append, List.getElem?_cons_zero, List.getElem?_cons_succ, List.set_cons_zero, List.set_cons_succ, if_true, if_false, Bool.not_true, Bool.not_false, Bool.false_eq_true, decide_true, decide_false, true_and, and_true]
  refine ⟨fun n ds m => ∃ (x y : Int) (o : Option D), ds = [some (.int x), some (.int y), o] ∧ 0 ≤ x ∧ 0 ≤ y ∧ n = y.toNat ∧ Int.gcd x y = Int.gcd i j ∧ m = ⟨dk, none⟩, ⟨_, _, _, _, rfl, by omega, by omega, rfl, by simp [Int.gcd], rfl⟩, ?_⟩
  rintro n _ _ ⟨x, y, o, rfl, hx, hy, rfl, hg, rfl⟩
  simp only [sRet, sSeq, sIf, sNext, sSet, sPar, sAsg, sFor, sNever, sCont, dVar, dC, dNeg, dBin, oI, oI0, oEq, oIx, dTst, dAndT, dOrT, dNotT, dAndV, dOrV, dNotV, dIfE, dNil, dCons, dTup, dLst, dIxN, dCall, dCB, oAt, oAbs, gdName, gdNil, gdCons, gdTup, startD, tYesD, dIsi, List.map, List.length, List.replicate, Nat.sub_self, Nat.reduceSub, Nat.reduceAdd, List.reduceReplicate, List.append_nil, List.nil_append, List.cons_append, List.getElem?_cons_zero, List.getElem?_cons_succ, List.set_cons_zero, List.set_cons_succ, if_true, if_false, Bool.not_true, Bool.not_false, Bool.false_eq_true, decide_true, decide_false, true_and, and_true]
  by_cases hp : 0 < y
  · simp only [hp, sRet, sSeq, sIf, sNext, sSet, sPar, sAsg, sFor, sNever, sCont, dVar, dC, dNeg, dBin, oI, oI0, oEq, oIx, dTst, dAndT, dOrT, dNotT, dAndV, dOrV, dNotV, dIfE, dNil, dCons, dTup, dLst, dIxN, dCall, dCB, oAt, oAbs, gdName, gdNil, gdCons, gdTup, startD, tYesD, dIsi, List.map, List.length, List.replicate, Nat.sub_self, Nat.reduceSub, Nat.reduceAdd, List.reduceReplicate, List.append_nil, List.nil_append, List.cons_append, List.getElem?_cons_zero, List.getElem?_cons_succ, List.set_cons_zero, List.set_cons_succ, if_true, if_false, Bool.not_true, Bool.not_false, Bool.false_eq_true, decide_true, decide_false, true_and, and_true]
    refine ⟨_, fun ds' m' q => q, (x % y).toNat, ?_, _, _, _, rfl, hy, Int.emod_nonneg _ (by omega), rfl, by rw [gcd_loop hx hp, hg], rfl⟩
    have := Int.emod_lt_of_pos x hp
    have := Int.emod_nonneg x (show y ≠ 0 by omega)
    omega
  · have e : y = 0 := by omega
    subst e
    rw [Int.gcd_zero_right] at hg
    have e : x = (Int.gcd i j : Int) := by omega
    rw [e]
    exact h
theorem rd_shareL : Rd 2 3 sp_shareL t_shareL := by
  rintro _ ⟨dk, ow⟩ R - ho ⟨t, b, rfl, hb, hB, h⟩
  cases ho
  simp only [t_shareL, sp_gcdL, sRet, sSeq, sIf, sNext, sSet, sPar, sAsg, sFor, sNever, sCont, dVar, dC, dNeg, dBin, oI, oI0, oEq, oIx, dTst, dAndT, dOrT, dNotT, dAndV, dOrV, dNotV, dIfE, dNil, dCons, dTup, dLst, dIxN, dCall, dCB, oAt, oAbs, gdName, gdNil, gdCons, gdTup, startD, tYesD, dIsi, List.map, List.length, List.replicate, Nat.sub_self, Nat.reduceSub, Nat.reduceAdd, List.reduceReplicate, List.append_nil, List.nil_append, List.cons_append, List.getElem?_cons_zero, List.getElem?_cons_succ, List.set_cons_zero, List.set_cons_succ, if_true, if_false, Bool.not_true, Bool.not_false, Bool.false_eq_true, decide_true, decide_false, true_and, and_true]
  have hg := gcd_pos (t := t) (b := b) (.inr (by omega))
  have gB : B 8990 (Int.gcd t b : Int) := by
    unfold B at *
    have : Int.gcd t b ≤ b.natAbs := Nat.gcd_le_right _ (by omega)
    simp only [Int.natAbs_natCast]
    omega
  refine ⟨_, _, rfl, divZ (by omega) gB (by decide) (by decide), divZ (by omega) gB (by decide) (by decide), ?_⟩
  have e := divInt_cut (t := t) (b := b) hb
  rw [fdiv_g _ hg, fdiv_g _ hg, ← e.1, ← e.2]
  exact h
theorem rd_wayL : Rd 2 3 sp_wayL t_wayL := by
  rintro _ ⟨dk, ow⟩ R - ho ⟨p, q, rfl, hz, h1, h2, h⟩
  cases ho
  simp only [t_wayL, sp_gcdL, sRet, sSeq, sIf, sNext, sSet, sPar, sAsg, sFor, sNever, sCont, dVar, dC, dNeg, dBin, oI, oI0, oEq, oIx, dTst, dAndT, dOrT, dNotT, dAndV, dOrV, dNotV, dIfE, dNil, dCons, dTup, dLst, dIxN, dCall, dCB, oAt, oAbs, gdName, gdNil, gdCons, gdTup, startD, tYesD, dIsi, List.map, List.length, List.replicate, Nat.sub_self, Nat.reduceSub, Nat.reduceAdd, List.reduceReplicate, List.append_nil, List.nil_append, List.cons_append, List.getElem?_cons_zero, List.getElem?_cons_succ, List.set_cons_zero, List.set_cons_succ, if_true, if_false, Bool.not_true, Bool.not_false, Bool.false_eq_true, decide_true, decide_false, true_and, and_true]
  have hg := gcd_pos hz
  have gB := gB_of hz h1 h2
  have e : ¬ ((Int.gcd p q : Int) = 0) := by omega
  refine ⟨_, _, rfl, divZ e gB (by decide) (by decide), divZ e gB (by decide) (by decide), ?_⟩
  rw [fdiv_g _ hg, fdiv_g _ hg]
  exact h
theorem rd_plusL : Rd 2 2 sp_plusL t_plusL := by
  rintro _ ⟨dk, ow⟩ R - ho ⟨x, y, rfl, h1, h2, h⟩
  cases ho
  simp only [t_plusL, sRet, sSeq, sIf, sNext, sSet, sPar, sAsg, sFor, sNever, sCont, dVar, dC, dNeg, dBin, oI, oI0, oEq, oIx, dTst, dAndT, dOrT, dNotT, dAndV, dOrV, dNotV, dIfE, dNil, dCons, dTup, dLst, dIxN, dCall, dCB, oAt, oAbs, gdName, gdNil, gdCons, gdTup, startD, tYesD, dIsi, List.map, List.length, List.replicate, Nat.sub_self, Nat.reduceSub, Nat.reduceAdd, List.reduceReplicate, List.append_nil, List.nil_append, List.cons_append, List.getElem?_cons_zero, List.getElem?_cons_succ, List.set_cons_zero, List.set_cons_succ, if_true, if_false, Bool.not_true, Bool.not_false, Bool.false_eq_true, decide_true, decide_false, true_and, and_true]
  exact ⟨mulW h1.1 h2.2 (by omega), mulW h2.1 h1.2 (by omega), mulW h1.2 h2.2 (by omega), h⟩
theorem rd_timesL : Rd 2 2 sp_timesL t_timesL := by
  rintro _ ⟨dk, ow⟩ R - ho ⟨x, y, rfl, h1, h2, h⟩
  cases ho
  simp only [t_timesL, sRet, sSeq, sIf, sNext, sSet, sPar, sAsg, sFor, sNever, sCont, dVar, dC, dNeg, dBin, oI, oI0, oEq, oIx, dTst, dAndT, dOrT, dNotT, dAndV, dOrV, dNotV, dIfE, dNil, dCons, dTup, dLst, dIxN, dCall, dCB, oAt, oAbs, gdName, gdNil, gdCons, gdTup, startD, tYesD, dIsi, List.map, List.length, List.replicate, Nat.sub_self, Nat.reduceSub, Nat.reduceAdd, List.reduceReplicate, List.append_nil, List.nil_append, List.cons_append, List.getElem?_cons_zero, List.getElem?_cons_succ, List.set_cons_zero, List.set_cons_succ, if_true, if_false, Bool.not_true, Bool.not_false, Bool.false_eq_true, decide_true, decide_false, true_and, and_true]
  exact ⟨mulW h1.1 h2.1 (by omega), mulW h1.2 h2.2 (by omega), h⟩
theorem rd_spotL : Rd 1 1 sp_spotL t_spotL := by
  rintro _ ⟨dk, ow⟩ R - ho ⟨x, rfl, h1, h2, h3, h4, h⟩
  cases ho
  simp only [t_spotL, sp_shareL, sRet, sSeq, sIf, sNext, sSet, sPar, sAsg, sFor, sNever, sCont, dVar, dC, dNeg, dBin, oI, oI0, oEq, oIx, dTst, dAndT, dOrT, dNotT, dAndV, dOrV, dNotV, dIfE, dNil, dCons, dTup, dLst, dIxN, dCall, dCB, oAt, oAbs, gdName, gdNil, gdCons, gdTup, startD, tYesD, dIsi, List.map, List.length, List.replicate, Nat.sub_self, Nat.reduceSub, Nat.reduceAdd, List.reduceReplicate, List.append_nil, List.nil_append, List.cons_append, List.getElem?_cons_zero, List.getElem?_cons_succ, List.set_cons_zero, List.set_cons_succ, if_true, if_false, Bool.not_true, Bool.not_false, Bool.false_eq_true, decide_true, decide_false, true_and, and_true]
  exact ⟨_, _, rfl, h1, h3, _, _, rfl, h2, h4, h⟩
theorem rd_spot_plusL : Rd 2 2 sp_spot_plusL t_spot_plusL := by
  rintro _ ⟨dk, ow⟩ R - ho ⟨x, y, rfl, h1, h2, h3, h4, h⟩
  cases ho
  simp only [t_spot_plusL, sp_plusL, sRet, sSeq, sIf, sNext, sSet, sPar, sAsg, sFor, sNever, sCont, dVar, dC, dNeg, dBin, oI, oI0, oEq, oIx, dTst, dAndT, dOrT, dNotT, dAndV, dOrV, dNotV, dIfE, dNil, dCons, dTup, dLst, dIxN, dCall, dCB, oAt, oAbs, gdName, gdNil, gdCons, gdTup, startD, tYesD, dIsi, List.map, List.length, List.replicate, Nat.sub_self, Nat.reduceSub, Nat.reduceAdd, List.reduceReplicate, List.append_nil, List.nil_append, List.cons_append, List.getElem?_cons_zero, List.getElem?_cons_succ, List.set_cons_zero, List.set_cons_succ, if_true, if_false, Bool.not_true, Bool.not_false, Bool.false_eq_true, decide_true, decide_false, true_and, and_true]
  exact ⟨x.1, y.1, rfl, h1, h3, x.2, y.2, rfl, h2, h4, h⟩
theorem rd_spot_timesL : Rd 2 2 sp_spot_timesL t_spot_timesL := by
  rintro _ ⟨dk, ow⟩ R - ho ⟨x, y, rfl, h1, h2, h3, h⟩
  cases ho
  simp only [t_spot_timesL, sp_timesL, sRet, sSeq, sIf, sNext, sSet, sPar, sAsg, sFor, sNever, sCont, dVar, dC, dNeg, dBin, oI, oI0, oEq, oIx, dTst, dAndT, dOrT, dNotT, dAndV, dOrV, dNotV, dIfE, dNil, dCons, dTup, dLst, dIxN, dCall, dCB, oAt, oAbs, gdName, gdNil, gdCons, gdTup, startD, tYesD, dIsi, List.map, List.length, List.replicate, Nat.sub_self, Nat.reduceSub, Nat.reduceAdd, List.reduceReplicate, List.append_nil, List.nil_append, List.cons_append, List.getElem?_cons_zero, List.getElem?_cons_succ, List.set_cons_zero, List.set_cons_succ, if_true, if_false, Bool.not_true, Bool.not_false, Bool.false_eq_true, decide_true, decide_false, true_and, and_true]
  exact ⟨x.1, y, rfl, h1, h3, x.2, y, rfl, h2, h3, h⟩
theorem rd_leftL : Rd 3 3 sp_leftL t_leftL := by
  rintro _ ⟨dk, ow⟩ R - ho ⟨a, b, c, rfl, h1, h2, h3, h⟩
  cases ho
  simp only [t_leftL, sRet, sSeq, sIf, sNext, sSet, sPar, sAsg, sFor, sNever, sCont, dVar, dC, dNeg, dBin, oI, oI0, oEq, oIx, dTst, dAndT, dOrT, dNotT, dAndV, dOrV, dNotV, dIfE, dNil, dCons, dTup, dLst, dIxN, dCall, dCB, oAt, oAbs, gdName, gdNil, gdCons, gdTup, startD, tYesD, dIsi, List.map, List.length, List.replicate, Nat.sub_self, Nat.reduceSub, Nat.reduceAdd, List.reduceReplicate, List.append_nil, List.nil_append, List.cons_append, List.getElem?_cons_zero, List.getElem?_cons_succ, List.set_cons_zero, List.set_cons_succ, if_true, if_false, Bool.not_true, Bool.not_false, Bool.false_eq_true, decide_true, decide_false, true_and, and_true]
  exact ⟨mulW (h2.1.sub h1.1) (h3.2.sub h1.2) (by decide), mulW (h2.2.sub h1.2) (h3.1.sub h1.1) (by decide), h⟩
theorem rd_reachL : Rd 2 3 sp_reachL t_reachL := by
  rintro _ ⟨dk, ow⟩ R - ho ⟨cs, w, k, rfl, hg, hw, hk, h⟩
  cases ho
  simp only [t_reachL, dLc, iTupD, sRet, sSeq, sIf, sNext, sSet, sPar, sAsg, sFor, sNever, sCont, dVar, dC, dNeg, dBin, oI, oI0, oEq, oIx, dTst, dAndT, dOrT, dNotT, dAndV, dOrV, dNotV, dIfE, dNil, dCons, dTup, dLst, dIxN, dCall, dCB, oAt, oAbs, gdName, gdNil, gdCons, gdTup, startD, tYesD, dIsi, List.map, List.length, List.replicate, Nat.sub_self, Nat.reduceSub, Nat.reduceAdd, List.reduceReplicate, List.append_nil, List.nil_append, List.cons_append, List.getElem?_cons_zero, List.getElem?_cons_succ, List.set_cons_zero, List.set_cons_succ, if_true, if_false, Bool.not_true, Bool.not_false, Bool.false_eq_true, decide_true, decide_false, true_and, and_true]
  refine lc_map cs dPr (fun c => .int (dot w c)) (Nat.le_trans hg.hi (by decide)) ?_ ?_
  · intro c hc J hJ
    have hs := hg.small c hc
    simp only [wipeD, sRet, sSeq, sIf, sNext, sSet, sPar, sAsg, sFor, sNever, sCont, dVar, dC, dNeg, dBin, oI, oI0, oEq, oIx, dTst, dAndT, dOrT, dNotT, dAndV, dOrV, dNotV, dIfE, dNil, dCons, dTup, dLst, dIxN, dCall, dCB, oAt, oAbs, gdName, gdNil, gdCons, gdTup, startD, tYesD, dIsi, List.map, List.length, List.replicate, Nat.sub_self, Nat.reduceSub, Nat.reduceAdd, List.reduceReplicate, List.append_nil, List.nil_append, List.cons_append, List.getElem?_cons_zero, List.getElem?_cons_succ, List.set_cons_zero, List.set_cons_succ, if_true, if_false, Bool.not_true, Bool.not_false, Bool.false_eq_true, decide_true, decide_false, true_and, and_true]
    exact ⟨mulW hw.1 hs.1 (by omega), mulW hw.2 hs.2 (by omega), hJ⟩
  · refine ⟨cs.map (dot w), by rw [List.map_map]; rfl, by rw [List.length_map]; have := hg.lo; omega, fun k h1 h2 => ?_⟩
    obtain ⟨c, hc, rfl⟩ := List.mem_map.mp h1
    rw [reach_uniq (cs := cs) (w := w) ⟨c, hc, rfl⟩ fun d hd => h2 _ (List.mem_map.mpr ⟨d, hd, rfl⟩)]
    exact h
theorem rd_roomL : Rd 4 5 sp_roomL t_roomL := by
  rintro _ ⟨dk, ow⟩ R - ho ⟨a, b, w, g, rfl, hp, hw, h1, h2, h3, h⟩
  cases ho
  simp only [t_roomL, sp_reachL, sRet, sSeq, sIf, sNext, sSet, sPar, sAsg, sFor, sNever, sCont, dVar, dC, dNeg, dBin, oI, oI0, oEq, oIx, dTst, dAndT, dOrT, dNotT, dAndV, dOrV, dNotV, dIfE, dNil, dCons, dTup, dLst, dIxN, dCall, dCB, oAt, oAbs, gdName, gdNil, gdCons, gdTup, startD, tYesD, dIsi, List.map, List.length, List.replicate, Nat.sub_self, Nat.reduceSub, Nat.reduceAdd, List.reduceReplicate, List.append_nil, List.nil_append, List.cons_append, List.getElem?_cons_zero, List.getElem?_cons_succ, List.set_cons_zero, List.set_cons_succ, if_true, if_false, Bool.not_true, Bool.not_false, Bool.false_eq_true, decide_true, decide_false, true_and, and_true]
  refine ⟨a.o.cs, w, 22, rfl, hp.ga, hw, by decide, b.o.cs, neg w, 22, rfl, hp.gb, hw.neg, by decide, ?_⟩
  exact ⟨mulW hw.1 h1 (by decide), mulW hw.2 h2 (by decide), mulW (shut_B hp hw) h3 (by decide), h⟩
/-- a fraction's value -/
theorem val_divInt {t b : Int} (hb : 0 < b) : (t : Rat) = Rat.divInt t b * (b : Rat) := by
  rw [Rat.divInt_eq_div]
  have : (b : Rat) ≠ 0 := fun z => by have := Rat.intCast_eq_zero_iff.mp z; omega
  grind
theorem val_self (q : Rat) : (q.num : Rat) = q * ((q.den : Int) : Rat) := by
  have := self_cut q
  have n1 : ((q.den : Int) : Rat) ≠ 0 := fun y => den_ne q (Rat.intCast_eq_zero_iff.mp y)
  grind
def Val (x : P2) (q : Rat) : Prop := 0 < x.2 ∧ (x.1 : Rat) = q * (x.2 : Rat)
theorem Val.self (q : Rat) : Val (q.num, (q.den : Int)) q := ⟨den_pos q, val_self q⟩
theorem Val.plus {x y : P2} {p q : Rat} (h : Val x p) (k : Val y q) : Val (plusF x y) (p + q) := by
  refine ⟨Int.mul_pos h.1 k.1, ?_⟩
  have h2 := h.2
  have k2 := k.2
  unfold plusF
  push_cast
  grind
theorem Val.times {x y : P2} {p q : Rat} (h : Val x p) (k : Val y q) : Val (timesF x y) (p * q) := by
  refine ⟨Int.mul_pos h.1 k.1, ?_⟩
  have h2 := h.2
  have k2 := k.2
  unfold timesF
  push_cast
  grind
theorem Val.int (i : Int) : Val (i, 1) (i : Rat) := ⟨Int.one_pos, by simp⟩
theorem Val.cut {x : P2} {q : Rat} (h : Val x q) : Rat.divInt x.1 x.2 = q := by
  rw [Rat.divInt_eq_div, h.2]
  have : (x.2 : Rat) ≠ 0 := fun z => by have := Rat.intCast_eq_zero_iff.mp z; have := h.1; omega
  grind
theorem BW_plus {n k : Nat} {x y : P2} (h : BW n x) (e : BW k y) : BW (n + k + 1) (plusF x y) := ⟨((h.1.mul e.2).add (e.1.mul h.2)).mono (by omega), (h.2.mul e.2).mono (by omega)⟩
theorem BW_times {n k : Nat} {x y : P2} (h : BW n x) (e : BW k y) : BW (n + k) (timesF x y) := ⟨h.1.mul e.1, h.2.mul e.2⟩
theorem Bq.bw {n : Nat} {q : Rat} (h : Bq n q) : BW n (q.num, (q.den : Int)) := ⟨h.1, h.den⟩
/-- bottoms apart -/
def BWd (n k : Nat) (x : P2) : Prop := B n x.1 ∧ B k x.2
theorem rd_betweenL : Rd 3 6 sp_betweenL t_betweenL := by
  rintro _ ⟨dk, ow⟩ R - ho ⟨a, b, x, t, rfl, hp, hx, h⟩
  cases ho
  simp only [t_betweenL, sp_spot_plusL, sp_spot_timesL, sRet, sSeq, sIf, sNext, sSet, sPar, sAsg, sFor, sNever, sCont, dVar, dC, dNeg, dBin, oI, oI0, oEq, oIx, dTst, dAndT, dOrT, dNotT, dAndV, dOrV, dNotV, dIfE, dNil, dCons, dTup, dLst, dIxN, dCall, dCB, oAt, oAbs, gdName, gdNil, gdCons, gdTup, startD, tYesD, dIsi, List.map, List.length, List.replicate, Nat.sub_self, Nat.reduceSub, Nat.reduceAdd, List.reduceReplicate, List.append_nil, List.nil_append, List.cons_append, List.getElem?_cons_zero, List.getElem?_cons_succ, List.set_cons_zero, List.set_cons_succ, if_true, if_false, Bool.not_true, Bool.not_false, Bool.false_eq_true, decide_true, decide_false, true_and, and_true]
  obtain ⟨i, j, h1, h2, h3⟩ := hp.pl
  obtain ⟨i', j', k1, k2, k3⟩ := hp.sp
  have m1 : BW 1 ((-1 : Int), (1 : Int)) := by unfold BW B; decide
  have bx : BW 1 x := by rcases hx with ⟨rfl, _⟩ | ⟨rfl, _⟩ <;> (unfold BW B; decide)
  have vx : Val x t := by
    rcases hx with ⟨rfl, rfl⟩ | ⟨rfl, rfl⟩
    · exact ⟨by decide, by simp⟩
    · exact ⟨by decide, by simp⟩
  have vm : Val ((-1 : Int), (1 : Int)) (-1 : Rat) := ⟨by decide, by simp⟩
  let F (q : Rat) : P2 := (q.num, (q.den : Int))
  let G (p q r s : Rat) : P2 := plusF (plusF (F p) (timesF (F q) (-1, 1))) (timesF (plusF (F r) (timesF (F s) (-1, 1))) x)
  refine ⟨(F a.o.place.1, F a.o.place.2), (-1, 1), rfl, h1.1.bw.mono (by omega), h1.2.bw.mono (by omega), m1.mono (by decide), ?_⟩
  refine ⟨(F b.o.place.1, F b.o.place.2), (timesF (F a.o.place.1) (-1, 1), timesF (F a.o.place.2) (-1, 1)), rfl, h2.1.bw.mono (by omega), h2.2.bw.mono (by omega), (BW_times h1.1.bw m1).mono (by omega), (BW_times h1.2.bw m1).mono (by omega), ?_⟩
  refine ⟨(F a.o.speed.1, F a.o.speed.2), (-1, 1), rfl, k1.1.bw.mono (by omega), k1.2.bw.mono (by omega), m1.mono (by decide), ?_⟩
  refine ⟨(F b.o.speed.1, F b.o.speed.2), (timesF (F a.o.speed.1) (-1, 1), timesF (F a.o.speed.2) (-1, 1)), rfl, k2.1.bw.mono (by omega), k2.2.bw.mono (by omega), (BW_times k1.1.bw m1).mono (by omega), (BW_times k1.2.bw m1).mono (by omega), ?_⟩
  have p1 : ∀ {p q : Rat}, Bq i p → Bq j q → BW (463) (plusF (F q) (timesF (F p) (-1, 1))) := fun hp hq => (BW_plus hq.bw (BW_times hp.bw m1)).mono (by omega)
  have p2 : ∀ {p q : Rat}, Bq i' p → Bq j' q → BW (923) (plusF (F q) (timesF (F p) (-1, 1))) := fun hp hq => (BW_plus hq.bw (BW_times hp.bw m1)).mono (by omega)
  refine ⟨(plusF (F b.o.speed.1) (timesF (F a.o.speed.1) (-1, 1)), plusF (F b.o.speed.2) (timesF (F a.o.speed.2) (-1, 1))), x, rfl, (p2 k1.1 k2.1).mono (by decide), (p2 k1.2 k2.2).mono (by decide), bx.mono (by decide), ?_⟩
  refine ⟨(plusF (F b.o.place.1) (timesF (F a.o.place.1) (-1, 1)), plusF (F b.o.place.2) (timesF (F a.o.place.2) (-1, 1))), (timesF (plusF (F b.o.speed.1) (timesF (F a.o.speed.1) (-1, 1))) x, timesF (plusF (F b.o.speed.2) (timesF (F a.o.speed.2) (-1, 1))) x), rfl, (p1 h1.1 h2.1).mono (by decide), (p1 h1.2 h2.2).mono (by decide), (BW_times (p2 k1.1 k2.1) bx).mono (by decide), (BW_times (p2 k1.2 k2.2) bx).mono (by decide), ?_⟩
  have g1 : BW 1388 (G b.o.place.1 a.o.place.1 b.o.speed.1 a.o.speed.1) := (BW_plus (p1 h1.1 h2.1) (BW_times (p2 k1.1 k2.1) bx)).mono (by decide)
  have g2 : BW 1388 (G b.o.place.2 a.o.place.2 b.o.speed.2 a.o.speed.2) := (BW_plus (p1 h1.2 h2.2) (BW_times (p2 k1.2 k2.2) bx)).mono (by decide)
  have d1 : ∀ {p q : Rat}, Bq i p → Bq j q → ∀ {r s : Rat}, Bq i' r → Bq j' s → B 1383 (G q p s r).2 := fun hp hq _ _ hr hs => (((hq.den.mul (hp.den.mul (B.nat (n := 1) (k := 1) (by decide)))).mul ((hs.den.mul (hr.den.mul (B.nat (n := 1) (k := 1) (by decide)))).mul bx.2))).mono (by omega)
  have e1 := d1 h1.1 h2.1 k1.1 k2.1
  have e2 := d1 h1.2 h2.2 k1.2 k2.2
  have v : ∀ (p q r s : Rat), Val (G p q r s) ((p - q) + (r - s) * t) := fun p q r s => by
    have := ((Val.self p).plus ((Val.self q).times vm)).plus (((Val.self r).plus ((Val.self s).times vm)).times vx)
    have e : (p - q) + (r - s) * t = p + q * -1 + (r + s * -1) * t := by grind
    rw [e]
    exact this
  have v1 := v b.o.place.1 a.o.place.1 b.o.speed.1 a.o.speed.1
  have v2 := v b.o.place.2 a.o.place.2 b.o.speed.2 a.o.speed.2
  show CMulW (G b.o.place.1 a.o.place.1 b.o.speed.1 a.o.speed.1).1 (G b.o.place.2 a.o.place.2 b.o.speed.2 a.o.speed.2).2 ∧ CMulW (G b.o.place.2 a.o.place.2 b.o.speed.2 a.o.speed.2).1 (G b.o.place.1 a.o.place.1 b.o.speed.1 a.o.speed.1).2 ∧ CMulW (G b.o.place.1 a.o.place.1 b.o.speed.1 a.o.speed.1).2 (G b.o.place.2 a.o.place.2 b.o.speed.2 a.o.speed.2).2 ∧ R (.tup [.int ((G b.o.place.1 a.o.place.1 b.o.speed.1 a.o.speed.1).1 * (G b.o.place.2 a.o.place.2 b.o.speed.2 a.o.speed.2).2), .int ((G b.o.place.2 a.o.place.2 b.o.speed.2 a.o.speed.2).1 * (G b.o.place.1 a.o.place.1 b.o.speed.1 a.o.speed.1).2), .int ((G b.o.place.1 a.o.place.1 b.o.speed.1 a.o.speed.1).2 * (G b.o.place.2 a.o.place.2 b.o.speed.2 a.o.speed.2).2)]) ⟨dk, none⟩
  generalize hG1 : G b.o.place.1 a.o.place.1 b.o.speed.1 a.o.speed.1 = G1 at *
  generalize hG2 : G b.o.place.2 a.o.place.2 b.o.speed.2 a.o.speed.2 = G2 at *
  refine ⟨mulW g1.1 e2 (by decide), mulW g2.1 e1 (by decide), mulW e1 e2 (by decide), ?_⟩
  refine h (G1.1 * G2.2, G2.1 * G1.2, G1.2 * G2.2) ⟨Int.mul_pos v1.1 v2.1, ?_, ?_, (g1.1.mul e2).mono (by decide), (g2.1.mul e1).mono (by decide), (e1.mul e2).mono (by decide)⟩
  · have q := v1.2
    show ((G1.1 * G2.2 : Int) : Rat) = ((b.o.place.1 - a.o.place.1) + (b.o.speed.1 - a.o.speed.1) * t) * ((G1.2 * G2.2 : Int) : Rat)
    push_cast
    grind
  · have q := v2.2
    show ((G2.1 * G1.2 : Int) : Rat) = ((b.o.place.2 - a.o.place.2) + (b.o.speed.2 - a.o.speed.2) * t) * ((G1.2 * G2.2 : Int) : Rat)
    push_cast
    grind
end K23
/-! the readings keep the promises: sides, pair ways, rooms -/
namespace K23
open PySem PySem.Spec PyProof.Rows L2
theorem own_map {α : Type} {g : DTg} {tb : DTS} {E : DEnds} {p : Addr} {k : Option Dk} (S : DEnv → Prop) (all : List α) (f : α → D) (h : α → List D) (ys : List D) (hz : ys.length + 3 * all.length < 99990) (h3 : ∀ x ∈ all, (h x).length ≤ 3)
    (one : ∀ x ∈ all, ∀ ds zs (J : DEnv → M → Prop), S ds → zs.length < 99990 → (∀ ds', S ds' → J ds' ⟨k, some (p, zs ++ h x)⟩) → g (f x) ds fun ds1 => tb ⟨J, E.rt, E.nx, J⟩ ds1 ⟨k, some (p, zs)⟩)
    (fin : ∀ ds, S ds → E.nx ds ⟨k, some (p, ys ++ all.flatMap h)⟩) (ds : DEnv) (h0 : S ds) : dLoop g tb E (all.map f) ds ⟨k, some (p, ys)⟩ := by
  refine loop_rule (fun items ds m => ∃ done todo, all = done ++ todo ∧ items = todo.map f ∧ S ds ∧ m = ⟨k, some (p, ys ++ done.flatMap h)⟩) ?_ ?_ _ _ _ ⟨[], all, rfl, rfl, h0, by simp⟩
  · rintro x xs ds _ J ⟨done, todo, e1, e2, hs, rfl⟩ hJ
    cases todo with
    | nil => cases e2
    | cons y todo =>
      cases e2
      have my : y ∈ all := by rw [e1]; simp
      refine one y my ds _ J hs ?_ fun ds' hs' => hJ _ _ ⟨done ++ [y], todo, by rw [e1]; simp, rfl, hs', by simp⟩
      have h4 : (done.flatMap h).length ≤ 3 * done.length := by
        have hd : ∀ x ∈ done, (h x).length ≤ 3 := fun x hx => h3 x (by rw [e1]; simp [hx])
        clear hJ hs e1 my hz
        induction done with
        | nil => simp
        | cons d done ih =>
          have := ih fun x hx => hd x (List.mem_cons_of_mem _ hx)
          have := hd d List.mem_cons_self
          simp at *
          omega
      rw [e1] at hz
      simp at hz ⊢
      simp at h4
      omega
  · rintro ds _ ⟨done, todo, e1, e2, hs, rfl⟩
    cases todo with
    | nil => rw [List.append_nil] at e1; rw [← e1]; exact fin ds hs
    | cons y todo => cases e2
theorem fm1 {α β : Type} (f : α → β) : ∀ l : List α, l.flatMap (fun x => [f x]) = l.map f
  | [] => rfl
  | x :: l => by simp [fm1 f l]
theorem zipW {α β : Type} (f : α → D) (g : β → D) : ∀ (xs : List α) (ys : List β), List.zipWith (fun u v => D.tup [u, v]) (xs.map f) (ys.map g) = (xs.zip ys).map fun z => .tup [f z.1, g z.2]
  | [], _ => by simp
  | x :: xs, [] => by simp
  | x :: xs, y :: ys => by simp [zipW f g xs ys]
theorem sideWs_zip : ∀ (c : P2) (r : List P2) (e : P2), sideWs (c :: r) e = ((c :: r).zip (r ++ [e])).map fun z => sideW z.1 z.2
  | c, [], e => by simp [sideWs]
  | c, d :: r, e => by
    rw [sideWs, sideWs_zip d r e]
    simp
theorem steps_zip : ∀ (c : P2) (r : List P2) (e : P2), Steps (c :: r) e → ∀ z ∈ (c :: r).zip (r ++ [e]), z.1 ≠ z.2
  | c, [], e, h, z, hz => by
    simp at hz
    rw [hz]
    exact h
  | c, d :: r, e, h, z, hz => by
    have hz' : z = (c, d) ∨ z ∈ (d :: r).zip (r ++ [e]) := by simpa using hz
    rcases hz' with e1 | hz'
    · rw [e1]; exact h.1
    · exact steps_zip d r e h.2 z hz'
theorem zip_mem {c : P2} {r : List P2} {z : P2 × P2} (h : z ∈ (c :: r).zip (r ++ [c])) : z.1 ∈ c :: r ∧ z.2 ∈ c :: r := by
  obtain ⟨a, b⟩ := z
  have := List.of_mem_zip h
  refine ⟨this.1, ?_⟩
  have h2 := this.2
  simp at h2 ⊢
  exact h2.symm
theorem side_sub {a b : P2} (h : a ≠ b) : b.2 - a.2 ≠ 0 ∨ a.1 - b.1 ≠ 0 := by
  by_cases e : b.2 - a.2 = 0
  · right
    intro e2
    exact h (Prod.ext (by omega) (by omega))
  · exact .inl e
theorem side_B {a b : P2} (ha : BW 21 a) (hb : BW 21 b) : B 22 (b.2 - a.2) ∧ B 22 (a.1 - b.1) := ⟨(hb.2.sub ha.2).mono (by decide), (ha.1.sub hb.1).mono (by decide)⟩
theorem sidesM_cons (c : P2) (r : List P2) : sidesM (c :: r) = ((c :: r).zip (r ++ [c])).map fun z => sideW z.1 z.2 := sideWs_zip c r c
theorem sides_BW {cs : List P2} (h : Good cs) : ∀ w ∈ sidesM cs, BW 22 w := by
  intro w hw
  cases cs with
  | nil => exact absurd rfl h.ne
  | cons c r =>
    rw [sidesM_cons] at hw
    obtain ⟨z, hz, rfl⟩ := List.mem_map.mp hw
    have hs := side_sub (steps_zip c r c h.steps z hz)
    have hm := zip_mem hz
    have hb := side_B (h.small _ hm.1) (h.small _ hm.2)
    exact ⟨B_div hb.1 (gcd_pos hs), B_div hb.2 (gcd_pos hs)⟩
theorem sides_gcd {cs : List P2} (h : Good cs) : ∀ w ∈ sidesM cs, Int.gcd w.1 w.2 = 1 := by
  intro w hw
  cases cs with
  | nil => exact absurd rfl h.ne
  | cons c r =>
    rw [sidesM_cons] at hw
    obtain ⟨z, hz, rfl⟩ := List.mem_map.mp hw
    exact cut_gcd (side_sub (steps_zip c r c h.steps z hz))
theorem sides_len {cs : List P2} : (sidesM cs).length = cs.length := by
  cases cs with
  | nil => rfl
  | cons c r =>
    rw [sidesM_cons]
    simp
theorem PW_BW {a b : Bo} (h : PairOk a b) : ∀ w ∈ PW a b, BW 22 w := by
  intro w hw
  rcases List.mem_append.mp hw with q | q
  · exact sides_BW h.ga w q
  · obtain ⟨v, hv, rfl⟩ := List.mem_map.mp q
    exact (sides_BW h.gb v hv).neg
theorem PW_gcd {a b : Bo} (h : PairOk a b) : ∀ w ∈ PW a b, Int.gcd w.1 w.2 = 1 := by
  intro w hw
  rcases List.mem_append.mp hw with q | q
  · exact sides_gcd h.ga w q
  · obtain ⟨v, hv, rfl⟩ := List.mem_map.mp q
    exact gcd_neg (sides_gcd h.gb v hv)
theorem rd_sides : Rd 1 8 sp_sides t_sides := by
  rintro _ ⟨dk, ow⟩ R - ho ⟨cs, rfl, hg, h⟩
  cases ho
  cases cs with
  | nil => exact absurd rfl hg.ne
  | cons c r =>
    have hl := hg.hi
    simp only [t_sides, sStar, sOwn, iZipD, oZip, oPlus, dFrz, oTuple, sRet, sSeq, sIf, sNext, sSet, sPar, sAsg, sFor, sNever, sCont, dVar, dC, dNeg, dBin, oI, oI0, oEq, oIx, dTst, dAndT, dOrT, dNotT, dAndV, dOrV, dNotV, dIfE, dNil, dCons, dTup, dLst, dIxN, dCall, dCB, oAt, oAbs, gdName, gdNil, gdCons, gdTup, startD, tYesD, dIsi, List.map, List.length, List.replicate, Nat.sub_self, Nat.reduceSub, Nat.reduceAdd, List.reduceReplicate, List.append_nil, List.nil_append, List.cons_append, List.getElem?_cons_zero, List.getElem?_cons_succ, List.set_cons_zero, List.set_cons_succ, if_true, if_false, Bool.not_true, Bool.not_false, Bool.false_eq_true, decide_true, decide_false, true_and, and_true]
    intro p
    have e0 : (r.map dPr ++ [dPr c]) = (r ++ [c]).map dPr := by simp
    refine ⟨?_, ?_, ?_⟩
    · simp at hl ⊢; omega
    · simp
    rw [e0, ← List.map_cons, zipW]
    refine own_map (fun ds => ∃ a b c' d, ds = [some (dCs (c :: r)), some (dPr c), some (.lst (r.map dPr)), some (.ref p), a, b, c', d]) ((c :: r).zip (r ++ [c])) _ (fun z => [dPr (sideW z.1 z.2)]) [] ?_ (by simp) ?_ ?_ _ ⟨_, _, _, _, rfl⟩
    · simp at hl ⊢; omega
    · rintro z hz _ zs J ⟨a, b, c', d, rfl⟩ hzs hJ
      have hm := zip_mem hz
      have hb := side_B (hg.small _ hm.1) (hg.small _ hm.2)
      simp only [sApp, sp_way_of, sRet, sSeq, sIf, sNext, sSet, sPar, sAsg, sFor, sNever, sCont, dVar, dC, dNeg, dBin, oI, oI0, oEq, oIx, dTst, dAndT, dOrT, dNotT, dAndV, dOrV, dNotV, dIfE, dNil, dCons, dTup, dLst, dIxN, dCall, dCB, oAt, oAbs, gdName, gdNil, gdCons, gdTup, startD, tYesD, dIsi, List.map, List.length, List.replicate, Nat.sub_self, Nat.reduceSub, Nat.reduceAdd, List.reduceReplicate, List.append_nil, List.nil_append, List.cons_append, List.getElem?_cons_zero, List.getElem?_cons_succ, List.set_cons_zero, List.set_cons_succ, if_true, if_false, Bool.not_true, Bool.not_false, Bool.false_eq_true, decide_true, decide_false, true_and, and_true]
      exact ⟨_, _, rfl, side_sub (steps_zip c r c hg.steps z hz), hb.1.mono (by decide), hb.2.mono (by decide), by omega, hJ _ ⟨_, _, _, _, rfl⟩⟩
    · rintro _ ⟨a, b, c', d, rfl⟩
      simp only [dFrz, sRet, sSeq, sIf, sNext, sSet, sPar, sAsg, sFor, sNever, sCont, dVar, dC, dNeg, dBin, oI, oI0, oEq, oIx, dTst, dAndT, dOrT, dNotT, dAndV, dOrV, dNotV, dIfE, dNil, dCons, dTup, dLst, dIxN, dCall, dCB, oAt, oAbs, gdName, gdNil, gdCons, gdTup, startD, tYesD, dIsi, List.map, List.length, List.replicate, Nat.sub_self, Nat.reduceSub, Nat.reduceAdd, List.reduceReplicate, List.append_nil, List.nil_append, List.cons_append, List.getElem?_cons_zero, List.getElem?_cons_succ, List.set_cons_zero, List.set_cons_succ, if_true, if_false, Bool.not_true, Bool.not_false, Bool.false_eq_true, decide_true, decide_false, true_and, and_true]
      have e : (sidesM (c :: r)).map dPr = [] ++ List.flatMap (fun z : P2 × P2 => [dPr (sideW z.1 z.2)]) ((c :: r).zip (r ++ [c])) := by
        rw [sidesM_cons, List.map_map, List.nil_append]
        exact (fm1 (fun z : P2 × P2 => dPr (sideW z.1 z.2)) _).symm
      rw [e] at h
      exact h
theorem range_zip {α : Type} (L : List α) (n : Nat) : ∀ x ∈ (List.range n).zip L, L[x.1]? = some x.2 := by
  intro x hx
  obtain ⟨i, hi⟩ := List.mem_iff_getElem?.mp hx
  rw [List.getElem?_zip_eq_some] at hi
  obtain ⟨h1, h2⟩ := hi
  rw [List.getElem?_range] at h1
  · cases h1
    exact h2
  · by_cases z : i < n
    · exact z
    · rw [List.getElem?_eq_none (by simp; omega)] at h1
      cases h1
theorem range_zipW (f : P2 → D) : ∀ (n : List Nat) (cs : List P2) (L : List (P2 × P2)), L.map (·.1) = cs → List.zipWith (fun (i : Nat) d => D.tup [.int (i : Nat), d]) n (cs.map f) = (n.zip L).map fun x => .tup [.int (x.1 : Nat), f x.2.1]
  | [], _, _, _ => by simp
  | i :: n, [], L, e => by
    have : L = [] := by simpa using e
    rw [this]
    simp
  | i :: n, c :: cs, [], e => by simp at e
  | i :: n, c :: cs, l :: L, e => by
    have e1 : l.1 = c := by simp at e; exact e.1
    have e2 : L.map (·.1) = cs := by simp at e; simpa using e.2
    simp [range_zipW f n cs L e2, e1]
theorem next_at {c : P2} {r : List P2} {k : Nat} {z : P2 × P2} (h : ((c :: r).zip (r ++ [c]))[k]? = some z) : (c :: r)[(k + 1) % (c :: r).length]? = some z.2 ∧ k < (c :: r).length := by
  rw [List.getElem?_zip_eq_some] at h
  obtain ⟨h1, h2⟩ := h
  have hk : k < (c :: r).length := by
    by_cases q : k < (c :: r).length
    · exact q
    · rw [List.getElem?_eq_none (by omega)] at h1; cases h1
  refine ⟨?_, hk⟩
  by_cases q : k + 1 < (c :: r).length
  · rw [Nat.mod_eq_of_lt q, List.getElem?_cons_succ]
    have : k < r.length := by simpa using q
    rw [List.getElem?_append_left this] at h2
    exact h2
  · have e : k = r.length := by simp at q hk; omega
    subst e
    rw [show (r.length + 1) % (c :: r).length = 0 by simp]
    rw [List.getElem?_append_right (by omega)] at h2
    simpa using h2
theorem atI_mod {α : Type} {xs : List α} {i : Int} {j : Nat} {d : α} (h : i = (j : Int)) (e : xs[j]? = some d) : atI xs i = some d := by
  subst h
  exact atI_nat e
theorem rd_waysL : Rd 1 5 sp_waysL t_waysL := by
  rintro _ ⟨dk, ow⟩ R - ho ⟨cs, rfl, hg, h⟩
  cases ho
  cases cs with
  | nil => exact absurd rfl hg.ne
  | cons c r =>
    have hl := hg.hi
    simp only [t_waysL, sOwn, iEnumD, oEnum, sRet, sSeq, sIf, sNext, sSet, sPar, sAsg, sFor, sNever, sCont, dVar, dC, dNeg, dBin, oI, oI0, oEq, oIx, dTst, dAndT, dOrT, dNotT, dAndV, dOrV, dNotV, dIfE, dNil, dCons, dTup, dLst, dIxN, dCall, dCB, oAt, oAbs, gdName, gdNil, gdCons, gdTup, startD, tYesD, dIsi, List.map, List.length, List.replicate, Nat.sub_self, Nat.reduceSub, Nat.reduceAdd, List.reduceReplicate, List.append_nil, List.nil_append, List.cons_append, List.getElem?_cons_zero, List.getElem?_cons_succ, List.set_cons_zero, List.set_cons_succ, if_true, if_false, Bool.not_true, Bool.not_false, Bool.false_eq_true, decide_true, decide_false, true_and, and_true]
    intro p
    have e0 : ((c :: r).zip (r ++ [c])).map (·.1) = c :: r := by
      rw [List.map_fst_zip]
      simp
    rw [← List.map_cons, range_zipW dPr _ _ _ e0]
    refine own_map (fun ds => ∃ a b d, ds = [some (dCs (c :: r)), some (.ref p), a, b, d]) ((List.range ((c :: r).map dPr).length).zip ((c :: r).zip (r ++ [c]))) _ (fun x => [dPr (sideW x.2.1 x.2.2)]) [] ?_ (by simp) ?_ ?_ _ ⟨_, _, _, rfl⟩
    · simp at hl ⊢; omega
    · rintro ⟨k, z⟩ hz _ zs J ⟨a, b, d, rfl⟩ hzs hJ
      have hk := range_zip _ _ _ hz
      have hz := List.mem_of_getElem? hk
      have hm := zip_mem hz
      have hb := side_B (hg.small _ hm.1) (hg.small _ hm.2)
      have hn := next_at hk
      simp only [sApp, sp_wayL, oLen, sRet, sSeq, sIf, sNext, sSet, sPar, sAsg, sFor, sNever, sCont, dVar, dC, dNeg, dBin, oI, oI0, oEq, oIx, dTst, dAndT, dOrT, dNotT, dAndV, dOrV, dNotV, dIfE, dNil, dCons, dTup, dLst, dIxN, dCall, dCB, oAt, oAbs, gdName, gdNil, gdCons, gdTup, startD, tYesD, dIsi, List.map, List.length, List.replicate, Nat.sub_self, Nat.reduceSub, Nat.reduceAdd, List.reduceReplicate, List.append_nil, List.nil_append, List.cons_append, List.getElem?_cons_zero, List.getElem?_cons_succ, List.set_cons_zero, List.set_cons_succ, if_true, if_false, Bool.not_true, Bool.not_false, Bool.false_eq_true, decide_true, decide_false, true_and, and_true]
      have e1 : atI ((c :: r).map dPr) (((k : Int) + 1) % (((c :: r).map dPr).length : Int)) = some (dPr z.2) := by
        refine atI_mod (j := (k + 1) % (c :: r).length) ?_ ?_
        · rw [List.length_map]
          push_cast
          rfl
        · rw [List.getElem?_map, hn.1]
          rfl
      have e2 : (0 : Int) < (((c :: r).map dPr).length : Int) := by rw [List.length_map, List.length_cons]; omega
      rw [List.map_cons] at e1 e2
      simp only [List.length_cons] at e1 e2
      simp only [e1, sRet, sSeq, sIf, sNext, sSet, sPar, sAsg, sFor, sNever, sCont, dVar, dC, dNeg, dBin, oI, oI0, oEq, oIx, dTst, dAndT, dOrT, dNotT, dAndV, dOrV, dNotV, dIfE, dNil, dCons, dTup, dLst, dIxN, dCall, dCB, oAt, oAbs, gdName, gdNil, gdCons, gdTup, startD, tYesD, dIsi, List.map, List.length, List.replicate, Nat.sub_self, Nat.reduceSub, Nat.reduceAdd, List.reduceReplicate, List.append_nil, List.nil_append, List.cons_append, List.getElem?_cons_zero, List.getElem?_cons_succ, List.set_cons_zero, List.set_cons_succ, if_true, if_false, Bool.not_true, Bool.not_false, Bool.false_eq_true, decide_true, decide_false, true_and, and_true]
      refine ⟨e2, _, _, rfl, side_sub (steps_zip c r c hg.steps z hz), hb.1.mono (by decide), hb.2.mono (by decide), by omega, hJ _ ⟨_, _, _, rfl⟩⟩
    · rintro _ ⟨a, b, d, rfl⟩
      simp only [sRet, sSeq, sIf, sNext, sSet, sPar, sAsg, sFor, sNever, sCont, dVar, dC, dNeg, dBin, oI, oI0, oEq, oIx, dTst, dAndT, dOrT, dNotT, dAndV, dOrV, dNotV, dIfE, dNil, dCons, dTup, dLst, dIxN, dCall, dCB, oAt, oAbs, gdName, gdNil, gdCons, gdTup, startD, tYesD, dIsi, List.map, List.length, List.replicate, Nat.sub_self, Nat.reduceSub, Nat.reduceAdd, List.reduceReplicate, List.append_nil, List.nil_append, List.cons_append, List.getElem?_cons_zero, List.getElem?_cons_succ, List.set_cons_zero, List.set_cons_succ, if_true, if_false, Bool.not_true, Bool.not_false, Bool.false_eq_true, decide_true, decide_false, true_and, and_true]
      have e : (sidesM (c :: r)).map dPr = [] ++ List.flatMap (fun x : Nat × (P2 × P2) => [dPr (sideW x.2.1 x.2.2)]) ((List.range ((c :: r).map dPr).length).zip ((c :: r).zip (r ++ [c]))) := by
        rw [sidesM_cons, List.map_map, List.nil_append, fm1 (fun x : Nat × (P2 × P2) => dPr (sideW x.2.1 x.2.2))]
        have q : ((List.range ((c :: r).map dPr).length).zip ((c :: r).zip (r ++ [c]))).map (·.2) = (c :: r).zip (r ++ [c]) := by
          rw [List.map_snd_zip]
          simp
        rw [← q, List.map_map]
        rw [q]
        rfl
      have h' := h p
      rw [e] at h'
      exact h'
end K23
/-! the readings keep the promises: pair ways, rooms, crossings -/
namespace K23
open PySem PySem.Spec PyProof.Rows L2
theorem rd_pair_waysL : Rd 2 4 sp_pair_waysL t_pair_waysL := by
  rintro _ ⟨dk, ow⟩ R - ho ⟨a, b, rfl, hp, h⟩
  cases ho
  simp only [t_pair_waysL, sOwnCall, sp_waysL, iLst, dCallF, dFrz, sRet, sSeq, sIf, sNext, sSet, sPar, sAsg, sFor, sNever, sCont, dVar, dC, dNeg, dBin, oI, oI0, oEq, oIx, dTst, dAndT, dOrT, dNotT, dAndV, dOrV, dNotV, dIfE, dNil, dCons, dTup, dLst, dIxN, dCall, dCB, oAt, oAbs, gdName, gdNil, gdCons, gdTup, startD, tYesD, dIsi, List.map, List.length, List.replicate, Nat.sub_self, Nat.reduceSub, Nat.reduceAdd, List.reduceReplicate, List.append_nil, List.nil_append, List.cons_append, List.getElem?_cons_zero, List.getElem?_cons_succ, List.set_cons_zero, List.set_cons_succ, if_true, if_false, Bool.not_true, Bool.not_false, Bool.false_eq_true, decide_true, decide_false, true_and, and_true]
  refine ⟨a.o.cs, rfl, hp.ga, fun p => ⟨b.o.cs, rfl, hp.gb, fun p2 => ?_⟩⟩
  have la : (sidesM a.o.cs).length ≤ 40 := by rw [sides_len]; exact hp.ga.hi
  have lb : (sidesM b.o.cs).length ≤ 40 := by rw [sides_len]; exact hp.gb.hi
  refine loop_rule (fun items ds m => ∃ (done todo zs : List P2) (o : Option D), sidesM b.o.cs = done ++ todo ∧ items = todo.map dPr ∧ ds = [some (dB a), some (dB b), some (.ref p), o] ∧ m = ⟨dk, some (p, zs.map dPr)⟩ ∧ (∀ w, w ∈ zs ↔ w ∈ sidesM a.o.cs ++ done.map neg) ∧ zs.length ≤ 40 + done.length) ?_ ?_ _ _ _ ⟨[], sidesM b.o.cs, sidesM a.o.cs, none, rfl, rfl, rfl, rfl, by simp, by simpa using la⟩
  · rintro x xs _ _ J ⟨done, todo, zs, o, e1, e2, rfl, rfl, hm, hz⟩ hJ
    cases todo with
    | nil => cases e2
    | cons y todo =>
      cases e2
      have hd : done.length < 40 := by rw [e1] at lb; simp at lb; omega
      simp only [sApp, dNotInOwn, sRet, sSeq, sIf, sNext, sSet, sPar, sAsg, sFor, sNever, sCont, dVar, dC, dNeg, dBin, oI, oI0, oEq, oIx, dTst, dAndT, dOrT, dNotT, dAndV, dOrV, dNotV, dIfE, dNil, dCons, dTup, dLst, dIxN, dCall, dCB, oAt, oAbs, gdName, gdNil, gdCons, gdTup, startD, tYesD, dIsi, List.map, List.length, List.replicate, Nat.sub_self, Nat.reduceSub, Nat.reduceAdd, List.reduceReplicate, List.append_nil, List.nil_append, List.cons_append, List.getElem?_cons_zero, List.getElem?_cons_succ, List.set_cons_zero, List.set_cons_succ, if_true, if_false, Bool.not_true, Bool.not_false, Bool.false_eq_true, decide_true, decide_false, true_and, and_true]
      refine ⟨zs, rfl, ?_⟩
      by_cases q : (-y.1, -y.2) ∈ zs
      · simp only [q, sRet, sSeq, sIf, sNext, sSet, sPar, sAsg, sFor, sNever, sCont, dVar, dC, dNeg, dBin, oI, oI0, oEq, oIx, dTst, dAndT, dOrT, dNotT, dAndV, dOrV, dNotV, dIfE, dNil, dCons, dTup, dLst, dIxN, dCall, dCB, oAt, oAbs, gdName, gdNil, gdCons, gdTup, startD, tYesD, dIsi, List.map, List.length, List.replicate, Nat.sub_self, Nat.reduceSub, Nat.reduceAdd, List.reduceReplicate, List.append_nil, List.nil_append, List.cons_append, List.getElem?_cons_zero, List.getElem?_cons_succ, List.set_cons_zero, List.set_cons_succ, if_true, if_false, Bool.not_true, Bool.not_false, Bool.false_eq_true, decide_true, decide_false, true_and, and_true]
        refine hJ _ _ ⟨done ++ [y], todo, zs, _, by rw [e1]; simp, rfl, rfl, rfl, fun w => ?_, by simp; omega⟩
        rw [hm w]
        have q2 := (hm _).mp q
        simp only [List.map_append, List.mem_append, List.map_cons, List.map_nil, List.mem_singleton] at q2 ⊢
        constructor
        · rintro (z | z)
          · exact .inl z
          · exact .inr (.inl z)
        · rintro (z | z | z)
          · exact .inl z
          · exact .inr z
          · rw [z]; exact q2
      · simp only [q, sRet, sSeq, sIf, sNext, sSet, sPar, sAsg, sFor, sNever, sCont, dVar, dC, dNeg, dBin, oI, oI0, oEq, oIx, dTst, dAndT, dOrT, dNotT, dAndV, dOrV, dNotV, dIfE, dNil, dCons, dTup, dLst, dIxN, dCall, dCB, oAt, oAbs, gdName, gdNil, gdCons, gdTup, startD, tYesD, dIsi, List.map, List.length, List.replicate, Nat.sub_self, Nat.reduceSub, Nat.reduceAdd, List.reduceReplicate, List.append_nil, List.nil_append, List.cons_append, List.getElem?_cons_zero, List.getElem?_cons_succ, List.set_cons_zero, List.set_cons_succ, if_true, if_false, Bool.not_true, Bool.not_false, Bool.false_eq_true, decide_true, decide_false, true_and, and_true]
        refine ⟨by simp; omega, hJ _ _ ⟨done ++ [y], todo, zs ++ [neg y], _, by rw [e1]; simp, rfl, rfl, by simp [neg], fun w => ?_, by simp; omega⟩⟩
        simp only [List.map_append, List.mem_append, List.map_cons, List.map_nil, List.mem_singleton, hm w]
        constructor
        · rintro ((z | z) | z)
          · exact .inl z
          · exact .inr (.inl z)
          · exact .inr (.inr z)
        · rintro (z | z | z)
          · exact .inl (.inl z)
          · exact .inl (.inr z)
          · exact .inr z
  · rintro _ _ ⟨done, todo, zs, o, e1, e2, rfl, rfl, hm, hz⟩
    cases todo with
    | cons y todo => cases e2
    | nil =>
      rw [List.append_nil] at e1
      simp only [dFrz, sRet, sSeq, sIf, sNext, sSet, sPar, sAsg, sFor, sNever, sCont, dVar, dC, dNeg, dBin, oI, oI0, oEq, oIx, dTst, dAndT, dOrT, dNotT, dAndV, dOrV, dNotV, dIfE, dNil, dCons, dTup, dLst, dIxN, dCall, dCB, oAt, oAbs, gdName, gdNil, gdCons, gdTup, startD, tYesD, dIsi, List.map, List.length, List.replicate, Nat.sub_self, Nat.reduceSub, Nat.reduceAdd, List.reduceReplicate, List.append_nil, List.nil_append, List.cons_append, List.getElem?_cons_zero, List.getElem?_cons_succ, List.set_cons_zero, List.set_cons_succ, if_true, if_false, Bool.not_true, Bool.not_false, Bool.false_eq_true, decide_true, decide_false, true_and, and_true]
      refine ⟨zs, rfl, fun qs hq _ => h qs (fun w => ?_) ?_⟩
      · rw [hq.mem_iff, hm w, ← e1]
        exact Iff.rfl
      · rw [hq.length_eq]
        rw [e1] at lb
        omega
theorem gone_room {a b : Bo} {t : Rat} {g : Int × Int × Int} (hg : GoneAt a b t g) (w : P2) : ((roomM a b w g : Int) : Rat) = gapT a b w t * (g.2.2 : Rat) := by
  obtain ⟨h0, h1, h2, _⟩ := hg
  unfold roomM gapT rateT dq
  unfold goneT at h1 h2
  push_cast
  rw [h1, h2]
  grind
theorem mul_pos_neg {x d : Rat} (hd : 0 < d) : x * d < 0 ↔ x < 0 := by
  constructor
  · intro h
    by_cases z : x < 0
    · exact z
    · have := Rat.mul_nonneg (Rat.not_lt.mp z) (Rat.le_of_lt hd)
      exact absurd h (Rat.not_lt.mpr this)
  · intro h
    have := Rat.mul_pos (show 0 < -x by grind) hd
    grind
theorem cast_pos {d : Int} (h : 0 < d) : (0 : Rat) < (d : Rat) := by exact_mod_cast h
theorem room_neg {a b : Bo} {t : Rat} {g : Int × Int × Int} (hg : GoneAt a b t g) (w : P2) : roomM a b w g < 0 ↔ gapT a b w t < 0 := by
  rw [← mul_pos_neg (cast_pos hg.1), ← gone_room hg w]
  exact_mod_cast Iff.rfl
theorem rd_roomsL : Rd 3 5 sp_roomsL t_roomsL := by
  rintro _ ⟨dk, ow⟩ R - ho ⟨a, b, rfl, hp, h⟩
  cases ho
  simp only [t_roomsL, sp_betweenL, sp_pair_waysL, iLst, dLc, sRet, sSeq, sIf, sNext, sSet, sPar, sAsg, sFor, sNever, sCont, dVar, dC, dNeg, dBin, oI, oI0, oEq, oIx, dTst, dAndT, dOrT, dNotT, dAndV, dOrV, dNotV, dIfE, dNil, dCons, dTup, dLst, dIxN, dCall, dCB, oAt, oAbs, gdName, gdNil, gdCons, gdTup, startD, tYesD, dIsi, List.map, List.length, List.replicate, Nat.sub_self, Nat.reduceSub, Nat.reduceAdd, List.reduceReplicate, List.append_nil, List.nil_append, List.cons_append, List.getElem?_cons_zero, List.getElem?_cons_succ, List.set_cons_zero, List.set_cons_succ, if_true, if_false, Bool.not_true, Bool.not_false, Bool.false_eq_true, decide_true, decide_false, true_and, and_true]
  refine ⟨a, b, (0, 1), 0, rfl, hp, .inl ⟨rfl, rfl⟩, fun g hg => ⟨a, b, rfl, hp, fun ws hw hl => ?_⟩⟩
  have hB : ∀ w ∈ ws, BW 22 w := fun w q => PW_BW hp w ((hw w).mp q)
  refine lc_map ws dPr (fun w => .int (roomM a.o b.o w g)) (by omega) ?_ ?_
  · intro w hw' J hJ
    simp only [wipeD, sp_roomL, sRet, sSeq, sIf, sNext, sSet, sPar, sAsg, sFor, sNever, sCont, dVar, dC, dNeg, dBin, oI, oI0, oEq, oIx, dTst, dAndT, dOrT, dNotT, dAndV, dOrV, dNotV, dIfE, dNil, dCons, dTup, dLst, dIxN, dCall, dCB, oAt, oAbs, gdName, gdNil, gdCons, gdTup, startD, tYesD, dIsi, List.map, List.length, List.replicate, Nat.sub_self, Nat.reduceSub, Nat.reduceAdd, List.reduceReplicate, List.append_nil, List.nil_append, List.cons_append, List.getElem?_cons_zero, List.getElem?_cons_succ, List.set_cons_zero, List.set_cons_succ, if_true, if_false, Bool.not_true, Bool.not_false, Bool.false_eq_true, decide_true, decide_false, true_and, and_true]
    refine ⟨a, b, w, g, rfl, hp, hB w hw', hg.2.2.2.1.mono (by decide), hg.2.2.2.2.1.mono (by decide), hg.2.2.2.2.2.mono (by decide), hJ⟩
  · have e : ws.map (fun w => D.int (roomM a.o b.o w g)) = (ws.map fun w => roomM a.o b.o w g).map D.int := by rw [List.map_map]; rfl
    rw [e]
    refine h _ (fun n hn => ?_) fun w q => ?_
    · obtain ⟨w, q, rfl⟩ := List.mem_map.mp hn
      exact ⟨w, (hw w).mp q, room_neg hg w⟩
    · exact ⟨_, List.mem_map.mpr ⟨w, (hw w).mpr q, rfl⟩, room_neg hg w⟩
theorem PW_ne {a b : Bo} (h : PairOk a b) : PW a b ≠ [] := by
  intro e
  unfold PW at e
  have q := congrArg List.length e
  rw [List.length_append, sides_len] at q
  have := h.ga.lo
  simp at q
  rw [q.1] at this
  simp at this
theorem rd_overL : Rd 3 3 sp_overL t_overL := by
  rintro _ ⟨dk, ow⟩ R - ho ⟨a, b, rfl, hp, h⟩
  cases ho
  simp only [t_overL, sp_roomsL, oMax, sRet, sSeq, sIf, sNext, sSet, sPar, sAsg, sFor, sNever, sCont, dVar, dC, dNeg, dBin, oI, oI0, oEq, oIx, dTst, dAndT, dOrT, dNotT, dAndV, dOrV, dNotV, dIfE, dNil, dCons, dTup, dLst, dIxN, dCall, dCB, oAt, oAbs, gdName, gdNil, gdCons, gdTup, startD, tYesD, dIsi, List.map, List.length, List.replicate, Nat.sub_self, Nat.reduceSub, Nat.reduceAdd, List.reduceReplicate, List.append_nil, List.nil_append, List.cons_append, List.getElem?_cons_zero, List.getElem?_cons_succ, List.set_cons_zero, List.set_cons_succ, if_true, if_false, Bool.not_true, Bool.not_false, Bool.false_eq_true, decide_true, decide_false, true_and, and_true]
  refine ⟨a, b, rfl, hp, fun ns h1 h2 => ⟨ns, rfl, ?_, fun k hk hm => h _ ?_⟩⟩
  · cases e : PW a.o b.o with
    | nil => exact absurd e (PW_ne hp)
    | cons w r =>
      obtain ⟨n, hn, _⟩ := h2 w (by rw [e]; simp)
      exact List.length_pos_of_mem hn
  · rw [decide_eq_true_eq]
    constructor
    · intro z w hw
      obtain ⟨n, hn, e⟩ := h2 w hw
      have := hm n hn
      exact e.mp (by omega)
    · intro z
      obtain ⟨w, hw, e⟩ := h1 k hk
      exact e.mpr (z w hw)
theorem rd_turnedL : Rd 1 1 sp_turnedL t_turnedL := by
  rintro _ ⟨dk, ow⟩ R - ho ⟨p, rfl, h⟩
  cases ho
  cases p with
  | clear w =>
    have e1 : cutD [D.str "clear", dPr w] none (some (-1)) = [D.str "clear"] := rfl
    have e2 : atI [D.str "clear", dPr w] (-1) = some (dPr w) := rfl
    have e3 : ¬ (HT.sIx 2 0 (none : Option Int) = 0 ∧ HT.sIx 2 2 (some (-1 : Int)) = 2) := by decide
    simp only [t_turnedL, dPap, dSl, dNoPart, dPart, oPlus, sRet, sSeq, sIf, sNext, sSet, sPar, sAsg, sFor, sNever, sCont, dVar, dC, dNeg, dBin, oI, oI0, oEq, oIx, dTst, dAndT, dOrT, dNotT, dAndV, dOrV, dNotV, dIfE, dNil, dCons, dTup, dLst, dIxN, dCall, dCB, oAt, oAbs, gdName, gdNil, gdCons, gdTup, startD, tYesD, dIsi, List.map, List.length, List.replicate, Nat.sub_self, Nat.reduceSub, Nat.reduceAdd, List.reduceReplicate, List.append_nil, List.nil_append, List.cons_append, List.getElem?_cons_zero, List.getElem?_cons_succ, List.set_cons_zero, List.set_cons_succ, if_true, if_false, Bool.not_true, Bool.not_false, Bool.false_eq_true, decide_true, decide_false, true_and, and_true]
    simp only [e1, e2, sRet, sSeq, sIf, sNext, sSet, sPar, sAsg, sFor, sNever, sCont, dVar, dC, dNeg, dBin, oI, oI0, oEq, oIx, dTst, dAndT, dOrT, dNotT, dAndV, dOrV, dNotV, dIfE, dNil, dCons, dTup, dLst, dIxN, dCall, dCB, oAt, oAbs, gdName, gdNil, gdCons, gdTup, startD, tYesD, dIsi, List.map, List.length, List.replicate, Nat.sub_self, Nat.reduceSub, Nat.reduceAdd, List.reduceReplicate, List.append_nil, List.nil_append, List.cons_append, List.getElem?_cons_zero, List.getElem?_cons_succ, List.set_cons_zero, List.set_cons_succ, if_true, if_false, Bool.not_true, Bool.not_false, Bool.false_eq_true, decide_true, decide_false, true_and, and_true]
    exact ⟨e3, List.cons_ne_nil _ _, List.cons_ne_nil _ _, by decide, h⟩
  | meets t w =>
    have e1 : cutD [D.str "meets", dQ t, dPr w] none (some (-1)) = [D.str "meets", dQ t] := rfl
    have e2 : atI [D.str "meets", dQ t, dPr w] (-1) = some (dPr w) := rfl
    have e3 : ¬ (HT.sIx 3 0 (none : Option Int) = 0 ∧ HT.sIx 3 3 (some (-1 : Int)) = 3) := by decide
    simp only [t_turnedL, dPap, dSl, dNoPart, dPart, oPlus, sRet, sSeq, sIf, sNext, sSet, sPar, sAsg, sFor, sNever, sCont, dVar, dC, dNeg, dBin, oI, oI0, oEq, oIx, dTst, dAndT, dOrT, dNotT, dAndV, dOrV, dNotV, dIfE, dNil, dCons, dTup, dLst, dIxN, dCall, dCB, oAt, oAbs, gdName, gdNil, gdCons, gdTup, startD, tYesD, dIsi, List.map, List.length, List.replicate, Nat.sub_self, Nat.reduceSub, Nat.reduceAdd, List.reduceReplicate, List.append_nil, List.nil_append, List.cons_append, List.getElem?_cons_zero, List.getElem?_cons_succ, List.set_cons_zero, List.set_cons_succ, if_true, if_false, Bool.not_true, Bool.not_false, Bool.false_eq_true, decide_true, decide_false, true_and, and_true]
    simp only [e1, e2, sRet, sSeq, sIf, sNext, sSet, sPar, sAsg, sFor, sNever, sCont, dVar, dC, dNeg, dBin, oI, oI0, oEq, oIx, dTst, dAndT, dOrT, dNotT, dAndV, dOrV, dNotV, dIfE, dNil, dCons, dTup, dLst, dIxN, dCall, dCB, oAt, oAbs, gdName, gdNil, gdCons, gdTup, startD, tYesD, dIsi, List.map, List.length, List.replicate, Nat.sub_self, Nat.reduceSub, Nat.reduceAdd, List.reduceReplicate, List.append_nil, List.nil_append, List.cons_append, List.getElem?_cons_zero, List.getElem?_cons_succ, List.set_cons_zero, List.set_cons_succ, if_true, if_false, Bool.not_true, Bool.not_false, Bool.false_eq_true, decide_true, decide_false, true_and, and_true]
    exact ⟨e3, List.cons_ne_nil _ _, List.cons_ne_nil _ _, by decide, h⟩
theorem rd_uprightL : Rd 2 5 sp_uprightL t_uprightL := by
  rintro _ ⟨dk, ow⟩ R - ho ⟨a, b, rfl, hp, h⟩
  cases ho
  simp only [t_uprightL, sp_spot_plusL, sp_spot_timesL, sRet, sSeq, sIf, sNext, sSet, sPar, sAsg, sFor, sNever, sCont, dVar, dC, dNeg, dBin, oI, oI0, oEq, oIx, dTst, dAndT, dOrT, dNotT, dAndV, dOrV, dNotV, dIfE, dNil, dCons, dTup, dLst, dIxN, dCall, dCB, oAt, oAbs, gdName, gdNil, gdCons, gdTup, startD, tYesD, dIsi, List.map, List.length, List.replicate, Nat.sub_self, Nat.reduceSub, Nat.reduceAdd, List.reduceReplicate, List.append_nil, List.nil_append, List.cons_append, List.getElem?_cons_zero, List.getElem?_cons_succ, List.set_cons_zero, List.set_cons_succ, if_true, if_false, Bool.not_true, Bool.not_false, Bool.false_eq_true, decide_true, decide_false, true_and, and_true]
  obtain ⟨i', j', k1, k2, k3⟩ := hp.sp
  have m1 : BW 1 ((-1 : Int), (1 : Int)) := by unfold BW B; decide
  let F (q : Rat) : P2 := (q.num, (q.den : Int))
  let G (p q : Rat) : P2 := plusF (F p) (timesF (F q) (-1, 1))
  refine ⟨(F a.o.speed.1, F a.o.speed.2), (-1, 1), rfl, k1.1.bw.mono (by omega), k1.2.bw.mono (by omega), m1.mono (by decide), ?_⟩
  refine ⟨(F b.o.speed.1, F b.o.speed.2), (timesF (F a.o.speed.1) (-1, 1), timesF (F a.o.speed.2) (-1, 1)), rfl, k2.1.bw.mono (by omega), k2.2.bw.mono (by omega), (BW_times k1.1.bw m1).mono (by omega), (BW_times k1.2.bw m1).mono (by omega), ?_⟩
  have p2 : ∀ {p q : Rat}, Bq i' p → Bq j' q → BW (923) (G q p) := fun hp hq => (BW_plus hq.bw (BW_times hp.bw m1)).mono (by omega)
  have g1 := p2 k1.1 k2.1
  have g2 := p2 k1.2 k2.2
  have v : ∀ (p q : Rat), 0 < (G p q).2 := fun p q => by
    have vm : Val ((-1 : Int), (1 : Int)) (-1 : Rat) := ⟨by decide, by simp⟩
    exact ((Val.self p).plus ((Val.self q).times vm)).1
  have v1 := v b.o.speed.1 a.o.speed.1
  have v2 := v b.o.speed.2 a.o.speed.2
  show CMulW (-(G b.o.speed.2 a.o.speed.2).1) (G b.o.speed.1 a.o.speed.1).2 ∧ CMulW (G b.o.speed.1 a.o.speed.1).1 (G b.o.speed.2 a.o.speed.2).2 ∧ _
  refine ⟨mulW g2.1.neg g1.2 (by decide), mulW g1.1 g2.2 (by decide), ?_⟩
  show (if decide (-(G b.o.speed.2 a.o.speed.2).1 * (G b.o.speed.1 a.o.speed.1).2 = 0) = true then if decide ((G b.o.speed.1 a.o.speed.1).1 * (G b.o.speed.2 a.o.speed.2).2 = 0) = true then R (dPr (0, 1)) ⟨dk, none⟩ else _ else _)
  have b1 : B 1846 (-(G b.o.speed.2 a.o.speed.2).1 * (G b.o.speed.1 a.o.speed.1).2) := (g2.1.neg.mul g1.2).mono (by decide)
  have b2 : B 1846 ((G b.o.speed.1 a.o.speed.1).1 * (G b.o.speed.2 a.o.speed.2).2) := (g1.1.mul g2.2).mono (by decide)
  have fin : ∀ p q : Int, B 1846 p → B 1846 q → (p ≠ 0 ∨ q ≠ 0) → sp_wayL [.int p, .int q] ⟨dk, none⟩ fun d m2 => R d ⟨m2.dk, none⟩ := fun p q hp hq hz =>
    ⟨p, q, rfl, hz, hp.mono (by decide), hq.mono (by decide), h _ ⟨(B_div hp (gcd_pos hz)).mono (by decide), (B_div hq (gcd_pos hz)).mono (by decide)⟩⟩
  by_cases z1 : -(G b.o.speed.2 a.o.speed.2).1 * (G b.o.speed.1 a.o.speed.1).2 = 0
  · by_cases z2 : (G b.o.speed.1 a.o.speed.1).1 * (G b.o.speed.2 a.o.speed.2).2 = 0
    · rw [if_pos (by simp only [z1, decide_true]), if_pos (by simp only [z2, decide_true])]
      exact h (0, 1) (BW.mono (n := 1) (by unfold BW B; decide) (by decide))
    · rw [if_pos (by simp only [z1, decide_true]), if_neg (by simp only [z2, decide_false]; decide)]
      exact fin _ _ b1 b2 (.inr z2)
  · rw [if_neg (by simp only [z1, decide_false]; decide)]
    exact fin _ _ b1 b2 (.inl z1)
theorem rd_crossingsL : Rd 2 9 sp_crossingsL t_crossingsL := by
  rintro _ ⟨dk, ow⟩ R - ho ⟨a, b, rfl, hp, h⟩
  cases ho
  simp only [t_crossingsL, sOwn, sp_betweenL, sp_pair_waysL, iLst, sRet, sSeq, sIf, sNext, sSet, sPar, sAsg, sFor, sNever, sCont, dVar, dC, dNeg, dBin, oI, oI0, oEq, oIx, dTst, dAndT, dOrT, dNotT, dAndV, dOrV, dNotV, dIfE, dNil, dCons, dTup, dLst, dIxN, dCall, dCB, oAt, oAbs, gdName, gdNil, gdCons, gdTup, startD, tYesD, dIsi, List.map, List.length, List.replicate, Nat.sub_self, Nat.reduceSub, Nat.reduceAdd, List.reduceReplicate, List.append_nil, List.nil_append, List.cons_append, List.getElem?_cons_zero, List.getElem?_cons_succ, List.set_cons_zero, List.set_cons_succ, if_true, if_false, Bool.not_true, Bool.not_false, Bool.false_eq_true, decide_true, decide_false, true_and, and_true]
  intro p
  refine ⟨a, b, (0, 1), 0, rfl, hp, .inl ⟨rfl, rfl⟩, fun g hg => ⟨a, b, (1, 1), 1, rfl, hp, .inr ⟨rfl, rfl⟩, fun l hl => ⟨a, b, rfl, hp, fun ws hw hlen => ?_⟩⟩⟩
  have hB : ∀ w ∈ ws, BW 22 w := fun w q => PW_BW hp w ((hw w).mp q)
  obtain ⟨g0, -, -, gx, gy, gd⟩ := hg
  obtain ⟨l0, -, -, lx, ly, ld⟩ := hl
  let N (w : P2) : Int := roomM a.o b.o w g
  let T (w : P2) : Int := roomM a.o b.o w l
  let Gr (w : P2) : Int := T w * g.2.2 - N w * l.2.2
  have rB : ∀ w ∈ ws, ∀ x : Int × Int × Int, B 2790 x.1 → B 2790 x.2.1 → B 2770 x.2.2 → B 2818 (roomM a.o b.o w x) := fun w q x h1 h2 h3 => ((((hB w q).1.mul h1).add ((hB w q).2.mul h2)).sub ((shut_B hp (hB w q)).mul h3)).mono (by decide)
  have gB : ∀ w ∈ ws, B 5589 (Gr w) := fun w q => (((rB w q l lx ly ld).mul gd).sub ((rB w q g gx gy gd).mul ld)).mono (by decide)
  let H (w : P2) : List (Rat × P2 × Bool) := if 0 < Gr w then [(Rat.divInt (-N w * l.2.2) (Gr w), w, true)] else if Gr w < 0 then [(Rat.divInt (N w * l.2.2) (-Gr w), w, false)] else []
  refine own_map (fun ds => ∃ o5 o6 o7 o8, ds = [some (dB a), some (dB b), some (.ref p), some (dGone g), some (dGone l), o5, o6, o7, o8]) ws dPr (fun w => (H w).map fun x => .tup [dQ x.1, dPr x.2.1, .bl x.2.2]) [] ?_ ?_ ?_ ?_ _ ⟨_, _, _, _, rfl⟩
  · simp; omega
  · intro w _
    simp only [H]
    split
    · simp
    · split <;> simp
  · rintro w hw' _ zs J ⟨o5, o6, o7, o8, rfl⟩ hzs hJ
    simp only [sp_roomL, sApp, sp_shareL, sRet, sSeq, sIf, sNext, sSet, sPar, sAsg, sFor, sNever, sCont, dVar, dC, dNeg, dBin, oI, oI0, oEq, oIx, dTst, dAndT, dOrT, dNotT, dAndV, dOrV, dNotV, dIfE, dNil, dCons, dTup, dLst, dIxN, dCall, dCB, oAt, oAbs, gdName, gdNil, gdCons, gdTup, startD, tYesD, dIsi, List.map, List.length, List.replicate, Nat.sub_self, Nat.reduceSub, Nat.reduceAdd, List.reduceReplicate, List.append_nil, List.nil_append, List.cons_append, List.getElem?_cons_zero, List.getElem?_cons_succ, List.set_cons_zero, List.set_cons_succ, if_true, if_false, Bool.not_true, Bool.not_false, Bool.false_eq_true, decide_true, decide_false, true_and, and_true]
    refine ⟨a, b, w, g, rfl, hp, hB w hw', gx.mono (by decide), gy.mono (by decide), gd.mono (by decide), a, b, w, l, rfl, hp, hB w hw', lx.mono (by decide), ly.mono (by decide), ld.mono (by decide), ?_⟩
    have hN := rB w hw' g gx gy gd
    have hT := rB w hw' l lx ly ld
    refine ⟨mulW hT gd (by decide), mulW hN ld (by decide), ?_⟩
    have hG := gB w hw'
    show (if decide (0 < Gr w) = true then _ else _)
    by_cases z1 : 0 < Gr w
    · have z2 : ¬ Gr w < 0 := by omega
      rw [if_pos (by simp only [z1, decide_true])]
      refine ⟨mulW hN.neg ld (by decide), _, _, rfl, z1, hG.mono (by decide), by omega, ?_⟩
      show (if decide (Gr w < 0) = true then _ else _)
      rw [if_neg (by simp only [z2, decide_false]; decide)]
      simp only [H, z1, if_true, List.map_cons, List.map_nil] at hJ
      exact hJ _ ⟨_, _, _, _, rfl⟩
    · rw [if_neg (by simp only [z1, decide_false]; decide)]
      show (if decide (Gr w < 0) = true then _ else _)
      by_cases z2 : Gr w < 0
      · rw [if_pos (by simp only [z2, decide_true])]
        refine ⟨mulW hN ld (by decide), _, _, rfl, by show 0 < -Gr w; omega, hG.neg.mono (by decide), by omega, ?_⟩
        simp only [H, z1, z2, if_true, if_false, List.map_cons, List.map_nil] at hJ
        exact hJ _ ⟨_, _, _, _, rfl⟩
      · rw [if_neg (by simp only [z2, decide_false]; decide)]
        simp only [H, z1, z2, if_false, List.map_nil, List.append_nil] at hJ
        exact hJ _ ⟨_, _, _, _, rfl⟩
  · rintro _ ⟨o5, o6, o7, o8, rfl⟩
    simp only [dFrz, sRet, sSeq, sIf, sNext, sSet, sPar, sAsg, sFor, sNever, sCont, dVar, dC, dNeg, dBin, oI, oI0, oEq, oIx, dTst, dAndT, dOrT, dNotT, dAndV, dOrV, dNotV, dIfE, dNil, dCons, dTup, dLst, dIxN, dCall, dCB, oAt, oAbs, gdName, gdNil, gdCons, gdTup, startD, tYesD, dIsi, List.map, List.length, List.replicate, Nat.sub_self, Nat.reduceSub, Nat.reduceAdd, List.reduceReplicate, List.append_nil, List.nil_append, List.cons_append, List.getElem?_cons_zero, List.getElem?_cons_succ, List.set_cons_zero, List.set_cons_succ, if_true, if_false, Bool.not_true, Bool.not_false, Bool.false_eq_true, decide_true, decide_false, true_and, and_true]
    have e : ws.flatMap (fun w => (H w).map fun x => D.tup [dQ x.1, dPr x.2.1, .bl x.2.2]) = (ws.flatMap H).map fun x => .tup [dQ x.1, dPr x.2.1, .bl x.2.2] := by rw [List.map_flatMap]
    rw [e]
    refine h _ ?_ fun x hx => ?_
    · have : ∀ ws : List P2, (ws.flatMap H).length ≤ ws.length := fun ws => by
        induction ws with
        | nil => simp
        | cons w ws ih =>
          have : (H w).length ≤ 1 := by
            simp only [H]
            split
            · simp
            · split <;> simp
          simp at *
          omega
      exact Nat.le_trans (this ws) hlen
    · obtain ⟨w, hw', q⟩ := List.mem_flatMap.mp hx
      have hN := rB w hw' g gx gy gd
      have hG := gB w hw'
      simp only [H] at q
      split at q
      · have q := List.mem_singleton.mp q
        subst q
        exact ⟨(Bq_cut (n := 5589) ((hN.neg.mul ld).mono (by decide)) hG (by omega)).mono (by decide), hB w hw'⟩
      · split at q
        · have q := List.mem_singleton.mp q
          subst q
          exact ⟨(Bq_cut (n := 5589) ((hN.mul ld).mono (by decide)) hG.neg (by omega)).mono (by decide), hB w hw'⟩
        · cases q
end K23
/-! the readings keep the promises: entered, meets_now, first_held, first -/
namespace K23
open PySem PySem.Spec PyProof.Rows L2
abbrev Row := P2 × Rat × Rat
theorem row_at (x : Row) (t t1 : Rat) : rowT x t = rowT x t1 + x.2.2 * (t - t1) := by unfold rowT; grind
theorem mul_pos' {a b : Rat} (h : 0 < a) (k : 0 < b) : 0 < a * b := Rat.mul_pos h k
theorem mul_nn {a b : Rat} (h : 0 ≤ a) (k : 0 ≤ b) : 0 ≤ a * b := Rat.mul_nonneg h k
theorem row_bound {x : Row} (h : x.2.2 ≠ 0) : rowT x (-x.2.1 / x.2.2) = 0 := by unfold rowT; grind
/-- sinking rows: later is less -/
theorem row_sink {x : Row} (h : x.2.2 < 0) {t1 t : Rat} (h1 : rowT x t1 ≤ 0) (ht : t1 ≤ t) : rowT x t ≤ 0 := by
  rw [row_at x t t1]
  have := mul_nn (a := -x.2.2) (b := t - t1) (by grind) (by grind)
  grind
theorem row_sink_ge {x : Row} (h : x.2.2 < 0) {t1 t : Rat} (h1 : rowT x t1 = 0) (ht : rowT x t ≤ 0) : t1 ≤ t := by
  rw [row_at x t t1, h1] at ht
  by_cases z : t1 ≤ t
  · exact z
  · have := mul_pos' (a := -x.2.2) (b := t1 - t) (by grind) (by grind)
    grind
theorem row_sink_le {x : Row} (h : x.2.2 < 0) {t1 t : Rat} (h1 : rowT x t1 ≤ 0) (ht : rowT x t = 0) : t ≤ t1 := row_sink_ge h ht h1
theorem row_grow {x : Row} (h : 0 < x.2.2) {t1 t : Rat} (h1 : rowT x t1 ≤ 0) (ht : t < t1) : rowT x t < 0 := by
  rw [row_at x t t1]
  have := mul_pos' (a := x.2.2) (b := t1 - t) h (by grind)
  grind
theorem row_grow_lt {x : Row} (h : 0 < x.2.2) {t1 t : Rat} (h1 : rowT x t1 = 0) (ht : rowT x t < 0) : t < t1 := by
  rw [row_at x t t1, h1] at ht
  by_cases z : t < t1
  · exact z
  · have := mul_nn (a := x.2.2) (b := t - t1) (by grind) (by grind)
    grind
theorem row_grow_le {x : Row} (h : 0 < x.2.2) {t1 t : Rat} (h1 : rowT x t1 ≤ 0) (ht : t ≤ t1) : rowT x t ≤ 0 := by
  rw [row_at x t t1]
  have := mul_nn (a := x.2.2) (b := t1 - t) (by grind) (by grind)
  grind
/-- what low holds -/
def LowOk (done : List Row) (d e : D) : Prop := (d = .non ∧ ∀ x ∈ done, ¬ x.2.2 < 0) ∨ ∃ t w, d = dQ t ∧ e = dPr w ∧ Bq 3000 t ∧ (∃ x ∈ done, x.1 = w ∧ x.2.2 < 0 ∧ rowT x t = 0) ∧ ∀ x ∈ done, x.2.2 < 0 → rowT x t ≤ 0
def HighOk (done : List Row) (d : D) : Prop := (d = .non ∧ ∀ x ∈ done, ¬ 0 < x.2.2) ∨ ∃ t, d = dQ t ∧ Bq 3000 t ∧ (∃ x ∈ done, 0 < x.2.2 ∧ rowT x t = 0) ∧ ∀ x ∈ done, 0 < x.2.2 → rowT x t ≤ 0
theorem LowOk.skip {done : List Row} {d e : D} {x : Row} (h : LowOk done d e) (hx : ¬ x.2.2 < 0) : LowOk (done ++ [x]) d e := by
  rcases h with ⟨h1, h2⟩ | ⟨t, w, h1, h2, h3, ⟨y, hy, h4⟩, h5⟩
  · refine .inl ⟨h1, fun z hz => ?_⟩
    rcases List.mem_append.mp hz with q | q
    · exact h2 z q
    · rw [List.mem_singleton.mp q]; exact hx
  · refine .inr ⟨t, w, h1, h2, h3, ⟨y, List.mem_append_left _ hy, h4⟩, fun z hz hs => ?_⟩
    rcases List.mem_append.mp hz with q | q
    · exact h5 z q hs
    · rw [List.mem_singleton.mp q] at hs; exact absurd hs hx
theorem HighOk.skip {done : List Row} {d : D} {x : Row} (h : HighOk done d) (hx : ¬ 0 < x.2.2) : HighOk (done ++ [x]) d := by
  rcases h with ⟨h1, h2⟩ | ⟨t, h1, h3, ⟨y, hy, h4⟩, h5⟩
  · refine .inl ⟨h1, fun z hz => ?_⟩
    rcases List.mem_append.mp hz with q | q
    · exact h2 z q
    · rw [List.mem_singleton.mp q]; exact hx
  · refine .inr ⟨t, h1, h3, ⟨y, List.mem_append_left _ hy, h4⟩, fun z hz hs => ?_⟩
    rcases List.mem_append.mp hz with q | q
    · exact h5 z q hs
    · rw [List.mem_singleton.mp q] at hs; exact absurd hs hx
theorem rd_entered : Rd 1 8 sp_entered t_entered := by
  rintro _ ⟨dk, ow⟩ R - ho ⟨rs, rfl, hB, hgrow, hyes, hno⟩
  cases ho
  simp only [t_entered, iLst, sRet, sSeq, sIf, sNext, sSet, sPar, sAsg, sFor, sNever, sCont, dVar, dC, dNeg, dBin, oI, oI0, oEq, oIx, dTst, dAndT, dOrT, dNotT, dAndV, dOrV, dNotV, dIfE, dNil, dCons, dTup, dLst, dIxN, dCall, dCB, oAt, oAbs, gdName, gdNil, gdCons, gdTup, startD, tYesD, dIsi, List.map, List.length, List.replicate, Nat.sub_self, Nat.reduceSub, Nat.reduceAdd, List.reduceReplicate, List.append_nil, List.nil_append, List.cons_append, List.getElem?_cons_zero, List.getElem?_cons_succ, List.set_cons_zero, List.set_cons_succ, if_true, if_false, Bool.not_true, Bool.not_false, Bool.false_eq_true, decide_true, decide_false, true_and, and_true]
  refine loop_rule (fun items ds m => ∃ (done todo : List Row) (lo hi wi : D) (o4 o5 o6 o7 : Option D), rs = done ++ todo ∧ items = todo.map dRow ∧ ds = [some (.lst (rs.map dRow)), some lo, some hi, some wi, o4, o5, o6, o7] ∧ m = ⟨dk, none⟩ ∧ LowOk done lo wi ∧ HighOk done hi ∧ ∀ x ∈ done, x.2.2 = 0 → x.2.1 < 0) ?_ ?_ _ _ _ ⟨[], rs, .non, .non, .non, _, _, _, _, rfl, rfl, rfl, rfl, .inl ⟨rfl, by simp⟩, .inl ⟨rfl, by simp⟩, by simp⟩
  · rintro z xs _ _ J ⟨done, todo, lo, hi, wi, o4, o5, o6, o7, e1, e2, rfl, rfl, hl, hh, hzr⟩ hJ
    cases todo with
    | nil => cases e2
    | cons x todo =>
      cases e2
      have mx : x ∈ rs := by rw [e1]; simp
      have e1' : rs = (done ++ [x]) ++ todo := by rw [e1]; simp
      have bx := hB x mx
      simp only [sRet, sSeq, sIf, sNext, sSet, sPar, sAsg, sFor, sNever, sCont, dVar, dC, dNeg, dBin, oI, oI0, oEq, oIx, dTst, dAndT, dOrT, dNotT, dAndV, dOrV, dNotV, dIfE, dNil, dCons, dTup, dLst, dIxN, dCall, dCB, oAt, oAbs, gdName, gdNil, gdCons, gdTup, startD, tYesD, dIsi, List.map, List.length, List.replicate, Nat.sub_self, Nat.reduceSub, Nat.reduceAdd, List.reduceReplicate, List.append_nil, List.nil_append, List.cons_append, List.getElem?_cons_zero, List.getElem?_cons_succ, List.set_cons_zero, List.set_cons_succ, if_true, if_false, Bool.not_true, Bool.not_false, Bool.false_eq_true, decide_true, decide_false, true_and, and_true]
      by_cases s0 : x.2.2.num = 0
      · have s0' : x.2.2 = 0 := (num_zero _).mp s0
        simp only [s0, sRet, sSeq, sIf, sNext, sSet, sPar, sAsg, sFor, sNever, sCont, dVar, dC, dNeg, dBin, oI, oI0, oEq, oIx, dTst, dAndT, dOrT, dNotT, dAndV, dOrV, dNotV, dIfE, dNil, dCons, dTup, dLst, dIxN, dCall, dCB, oAt, oAbs, gdName, gdNil, gdCons, gdTup, startD, tYesD, dIsi, List.map, List.length, List.replicate, Nat.sub_self, Nat.reduceSub, Nat.reduceAdd, List.reduceReplicate, List.append_nil, List.nil_append, List.cons_append, List.getElem?_cons_zero, List.getElem?_cons_succ, List.set_cons_zero, List.set_cons_succ, if_true, if_false, Bool.not_true, Bool.not_false, Bool.false_eq_true, decide_true, decide_false, true_and, and_true]
        by_cases r0 : 0 ≤ x.2.1.num
        · simp only [r0, sRet, sSeq, sIf, sNext, sSet, sPar, sAsg, sFor, sNever, sCont, dVar, dC, dNeg, dBin, oI, oI0, oEq, oIx, dTst, dAndT, dOrT, dNotT, dAndV, dOrV, dNotV, dIfE, dNil, dCons, dTup, dLst, dIxN, dCall, dCB, oAt, oAbs, gdName, gdNil, gdCons, gdTup, startD, tYesD, dIsi, List.map, List.length, List.replicate, Nat.sub_self, Nat.reduceSub, Nat.reduceAdd, List.reduceReplicate, List.append_nil, List.nil_append, List.cons_append, List.getElem?_cons_zero, List.getElem?_cons_succ, List.set_cons_zero, List.set_cons_succ, if_true, if_false, Bool.not_true, Bool.not_false, Bool.false_eq_true, decide_true, decide_false, true_and, and_true]
          refine hno fun t ht _ hm => ?_
          have r0' := (num_nonneg _).mp r0
          have := hm x mx
          unfold rowT at this
          rw [s0'] at this
          grind
        · simp only [r0, sRet, sSeq, sIf, sNext, sSet, sPar, sAsg, sFor, sNever, sCont, dVar, dC, dNeg, dBin, oI, oI0, oEq, oIx, dTst, dAndT, dOrT, dNotT, dAndV, dOrV, dNotV, dIfE, dNil, dCons, dTup, dLst, dIxN, dCall, dCB, oAt, oAbs, gdName, gdNil, gdCons, gdTup, startD, tYesD, dIsi, List.map, List.length, List.replicate, Nat.sub_self, Nat.reduceSub, Nat.reduceAdd, List.reduceReplicate, List.append_nil, List.nil_append, List.cons_append, List.getElem?_cons_zero, List.getElem?_cons_succ, List.set_cons_zero, List.set_cons_succ, if_true, if_false, Bool.not_true, Bool.not_false, Bool.false_eq_true, decide_true, decide_false, true_and, and_true]
          have r0' : x.2.1 < 0 := (num_neg _).mp (by omega)
          refine hJ _ _ ⟨done ++ [x], todo, lo, hi, wi, _, _, _, _, e1', rfl, rfl, rfl, hl.skip (by rw [s0']; exact (by decide)), hh.skip (by rw [s0']; exact (by decide)), fun y hy hs => ?_⟩
          rcases List.mem_append.mp hy with q | q
          · exact hzr y q hs
          · rw [List.mem_singleton.mp q]; exact r0'
      · have s0' : x.2.2 ≠ 0 := fun q => s0 ((num_zero _).mpr q)
        have hzr' : ∀ y ∈ done ++ [x], y.2.2 = 0 → y.2.1 < 0 := fun y hy hs => by
          rcases List.mem_append.mp hy with q | q
          · exact hzr y q hs
          · rw [List.mem_singleton.mp q] at hs; exact absurd hs s0'
        simp only [s0, sp_over, sRet, sSeq, sIf, sNext, sSet, sPar, sAsg, sFor, sNever, sCont, dVar, dC, dNeg, dBin, oI, oI0, oEq, oIx, dTst, dAndT, dOrT, dNotT, dAndV, dOrV, dNotV, dIfE, dNil, dCons, dTup, dLst, dIxN, dCall, dCB, oAt, oAbs, gdName, gdNil, gdCons, gdTup, startD, tYesD, dIsi, List.map, List.length, List.replicate, Nat.sub_self, Nat.reduceSub, Nat.reduceAdd, List.reduceReplicate, List.append_nil, List.nil_append, List.cons_append, List.getElem?_cons_zero, List.getElem?_cons_succ, List.set_cons_zero, List.set_cons_succ, if_true, if_false, Bool.not_true, Bool.not_false, Bool.false_eq_true, decide_true, decide_false, true_and, and_true]
        refine ⟨-x.2.1, x.2.2, 1100, 1900, rfl, s0', Bq_neg bx.1, bx.2, by decide, ?_⟩
        have hb := row_bound s0'
        have hbB : Bq 3000 (-x.2.1 / x.2.2) := Bq_over (Bq_neg bx.1) bx.2 s0
        generalize -x.2.1 / x.2.2 = bd at hb hbB ⊢
        by_cases sp : 0 < x.2.2.num
        · have sp' : 0 < x.2.2 := (num_pos _).mp sp
          have sn : ¬ x.2.2 < 0 := by grind
          simp only [sp, sRet, sSeq, sIf, sNext, sSet, sPar, sAsg, sFor, sNever, sCont, dVar, dC, dNeg, dBin, oI, oI0, oEq, oIx, dTst, dAndT, dOrT, dNotT, dAndV, dOrV, dNotV, dIfE, dNil, dCons, dTup, dLst, dIxN, dCall, dCB, oAt, oAbs, gdName, gdNil, gdCons, gdTup, startD, tYesD, dIsi, List.map, List.length, List.replicate, Nat.sub_self, Nat.reduceSub, Nat.reduceAdd, List.reduceReplicate, List.append_nil, List.nil_append, List.cons_append, List.getElem?_cons_zero, List.getElem?_cons_succ, List.set_cons_zero, List.set_cons_succ, if_true, if_false, Bool.not_true, Bool.not_false, Bool.false_eq_true, decide_true, decide_false, true_and, and_true]
          have new : (∀ y ∈ done, 0 < y.2.2 → rowT y bd ≤ 0) → HighOk (done ++ [x]) (dQ bd) := fun q => by
            refine .inr ⟨bd, rfl, hbB, ⟨x, by simp, sp', hb⟩, fun y hy hs => ?_⟩
            rcases List.mem_append.mp hy with k | k
            · exact q y k hs
            · rw [List.mem_singleton.mp k, hb]; exact Rat.le_refl
          rcases hh with ⟨rfl, h2⟩ | ⟨t, rfl, h3, ⟨y, hy, h4⟩, h5⟩
          · simp only [oIsN, sRet, sSeq, sIf, sNext, sSet, sPar, sAsg, sFor, sNever, sCont, dVar, dC, dNeg, dBin, oI, oI0, oEq, oIx, dTst, dAndT, dOrT, dNotT, dAndV, dOrV, dNotV, dIfE, dNil, dCons, dTup, dLst, dIxN, dCall, dCB, oAt, oAbs, gdName, gdNil, gdCons, gdTup, startD, tYesD, dIsi, List.map, List.length, List.replicate, Nat.sub_self, Nat.reduceSub, Nat.reduceAdd, List.reduceReplicate, List.append_nil, List.nil_append, List.cons_append, List.getElem?_cons_zero, List.getElem?_cons_succ, List.set_cons_zero, List.set_cons_succ, if_true, if_false, Bool.not_true, Bool.not_false, Bool.false_eq_true, decide_true, decide_false, true_and, and_true]
            exact hJ _ _ ⟨done ++ [x], todo, lo, _, wi, _, _, _, _, e1', rfl, rfl, rfl, hl.skip sn, new fun y hy hs => absurd hs (h2 y hy), hzr'⟩
          · simp only [oIsN, sp_order, sRet, sSeq, sIf, sNext, sSet, sPar, sAsg, sFor, sNever, sCont, dVar, dC, dNeg, dBin, oI, oI0, oEq, oIx, dTst, dAndT, dOrT, dNotT, dAndV, dOrV, dNotV, dIfE, dNil, dCons, dTup, dLst, dIxN, dCall, dCB, oAt, oAbs, gdName, gdNil, gdCons, gdTup, startD, tYesD, dIsi, List.map, List.length, List.replicate, Nat.sub_self, Nat.reduceSub, Nat.reduceAdd, List.reduceReplicate, List.append_nil, List.nil_append, List.cons_append, List.getElem?_cons_zero, List.getElem?_cons_succ, List.set_cons_zero, List.set_cons_succ, if_true, if_false, Bool.not_true, Bool.not_false, Bool.false_eq_true, decide_true, decide_false, true_and, and_true]
            refine ⟨bd, t, 3000, 3000, rfl, hbB, h3, by decide, fun k k1 k2 => ?_⟩
            by_cases kn : k < 0
            · simp only [kn, sRet, sSeq, sIf, sNext, sSet, sPar, sAsg, sFor, sNever, sCont, dVar, dC, dNeg, dBin, oI, oI0, oEq, oIx, dTst, dAndT, dOrT, dNotT, dAndV, dOrV, dNotV, dIfE, dNil, dCons, dTup, dLst, dIxN, dCall, dCB, oAt, oAbs, gdName, gdNil, gdCons, gdTup, startD, tYesD, dIsi, List.map, List.length, List.replicate, Nat.sub_self, Nat.reduceSub, Nat.reduceAdd, List.reduceReplicate, List.append_nil, List.nil_append, List.cons_append, List.getElem?_cons_zero, List.getElem?_cons_succ, List.set_cons_zero, List.set_cons_succ, if_true, if_false, Bool.not_true, Bool.not_false, Bool.false_eq_true, decide_true, decide_false, true_and, and_true]
              have lt := k1.mp kn
              exact hJ _ _ ⟨done ++ [x], todo, lo, _, wi, _, _, _, _, e1', rfl, rfl, rfl, hl.skip sn, new fun z hz hs => row_grow_le hs (h5 z hz hs) (Rat.le_of_lt lt), hzr'⟩
            · simp only [kn, sRet, sSeq, sIf, sNext, sSet, sPar, sAsg, sFor, sNever, sCont, dVar, dC, dNeg, dBin, oI, oI0, oEq, oIx, dTst, dAndT, dOrT, dNotT, dAndV, dOrV, dNotV, dIfE, dNil, dCons, dTup, dLst, dIxN, dCall, dCB, oAt, oAbs, gdName, gdNil, gdCons, gdTup, startD, tYesD, dIsi, List.map, List.length, List.replicate, Nat.sub_self, Nat.reduceSub, Nat.reduceAdd, List.reduceReplicate, List.append_nil, List.nil_append, List.cons_append, List.getElem?_cons_zero, List.getElem?_cons_succ, List.set_cons_zero, List.set_cons_succ, if_true, if_false, Bool.not_true, Bool.not_false, Bool.false_eq_true, decide_true, decide_false, true_and, and_true]
              have ge : ¬ bd < t := fun q => kn (k1.mpr q)
              refine hJ _ _ ⟨done ++ [x], todo, lo, _, wi, _, _, _, _, e1', rfl, rfl, rfl, hl.skip sn, .inr ⟨t, rfl, h3, ⟨y, List.mem_append_left _ hy, h4⟩, fun z hz hs => ?_⟩, hzr'⟩
              rcases List.mem_append.mp hz with q | q
              · exact h5 z q hs
              · rw [List.mem_singleton.mp q]
                exact row_grow_le sp' (by rw [hb]; exact Rat.le_refl) (Rat.not_lt.mp ge)
        · have sp' : x.2.2 < 0 := (num_neg _).mp (by omega)
          have sn : ¬ 0 < x.2.2 := by grind
          simp only [sp, sRet, sSeq, sIf, sNext, sSet, sPar, sAsg, sFor, sNever, sCont, dVar, dC, dNeg, dBin, oI, oI0, oEq, oIx, dTst, dAndT, dOrT, dNotT, dAndV, dOrV, dNotV, dIfE, dNil, dCons, dTup, dLst, dIxN, dCall, dCB, oAt, oAbs, gdName, gdNil, gdCons, gdTup, startD, tYesD, dIsi, List.map, List.length, List.replicate, Nat.sub_self, Nat.reduceSub, Nat.reduceAdd, List.reduceReplicate, List.append_nil, List.nil_append, List.cons_append, List.getElem?_cons_zero, List.getElem?_cons_succ, List.set_cons_zero, List.set_cons_succ, if_true, if_false, Bool.not_true, Bool.not_false, Bool.false_eq_true, decide_true, decide_false, true_and, and_true]
          have new : (∀ y ∈ done, y.2.2 < 0 → rowT y bd ≤ 0) → LowOk (done ++ [x]) (dQ bd) (dPr x.1) := fun q => by
            refine .inr ⟨bd, x.1, rfl, rfl, hbB, ⟨x, by simp, rfl, sp', hb⟩, fun y hy hs => ?_⟩
            rcases List.mem_append.mp hy with k | k
            · exact q y k hs
            · rw [List.mem_singleton.mp k, hb]; exact Rat.le_refl
          rcases hl with ⟨rfl, h2⟩ | ⟨t, w, rfl, rfl, h3, ⟨y, hy, h4⟩, h5⟩
          · simp only [oIsN, sRet, sSeq, sIf, sNext, sSet, sPar, sAsg, sFor, sNever, sCont, dVar, dC, dNeg, dBin, oI, oI0, oEq, oIx, dTst, dAndT, dOrT, dNotT, dAndV, dOrV, dNotV, dIfE, dNil, dCons, dTup, dLst, dIxN, dCall, dCB, oAt, oAbs, gdName, gdNil, gdCons, gdTup, startD, tYesD, dIsi, List.map, List.length, List.replicate, Nat.sub_self, Nat.reduceSub, Nat.reduceAdd, List.reduceReplicate, List.append_nil, List.nil_append, List.cons_append, List.getElem?_cons_zero, List.getElem?_cons_succ, List.set_cons_zero, List.set_cons_succ, if_true, if_false, Bool.not_true, Bool.not_false, Bool.false_eq_true, decide_true, decide_false, true_and, and_true]
            exact hJ _ _ ⟨done ++ [x], todo, _, hi, _, _, _, _, _, e1', rfl, rfl, rfl, new fun y hy hs => absurd hs (h2 y hy), hh.skip sn, hzr'⟩
          · simp only [oIsN, sp_order, sRet, sSeq, sIf, sNext, sSet, sPar, sAsg, sFor, sNever, sCont, dVar, dC, dNeg, dBin, oI, oI0, oEq, oIx, dTst, dAndT, dOrT, dNotT, dAndV, dOrV, dNotV, dIfE, dNil, dCons, dTup, dLst, dIxN, dCall, dCB, oAt, oAbs, gdName, gdNil, gdCons, gdTup, startD, tYesD, dIsi, List.map, List.length, List.replicate, Nat.sub_self, Nat.reduceSub, Nat.reduceAdd, List.reduceReplicate, List.append_nil, List.nil_append, List.cons_append, List.getElem?_cons_zero, List.getElem?_cons_succ, List.set_cons_zero, List.set_cons_succ, if_true, if_false, Bool.not_true, Bool.not_false, Bool.false_eq_true, decide_true, decide_false, true_and, and_true]
            refine ⟨bd, t, 3000, 3000, rfl, hbB, h3, by decide, fun k k1 k2 => ?_⟩
            by_cases kn : 0 < k
            · simp only [kn, sRet, sSeq, sIf, sNext, sSet, sPar, sAsg, sFor, sNever, sCont, dVar, dC, dNeg, dBin, oI, oI0, oEq, oIx, dTst, dAndT, dOrT, dNotT, dAndV, dOrV, dNotV, dIfE, dNil, dCons, dTup, dLst, dIxN, dCall, dCB, oAt, oAbs, gdName, gdNil, gdCons, gdTup, startD, tYesD, dIsi, List.map, List.length, List.replicate, Nat.sub_self, Nat.reduceSub, Nat.reduceAdd, List.reduceReplicate, List.append_nil, List.nil_append, List.cons_append, List.getElem?_cons_zero, List.getElem?_cons_succ, List.set_cons_zero, List.set_cons_succ, if_true, if_false, Bool.not_true, Bool.not_false, Bool.false_eq_true, decide_true, decide_false, true_and, and_true]
              have lt := k2.mp kn
              exact hJ _ _ ⟨done ++ [x], todo, _, hi, _, _, _, _, _, e1', rfl, rfl, rfl, new fun z hz hs => row_sink hs (h5 z hz hs) (Rat.le_of_lt lt), hh.skip sn, hzr'⟩
            · simp only [kn, sRet, sSeq, sIf, sNext, sSet, sPar, sAsg, sFor, sNever, sCont, dVar, dC, dNeg, dBin, oI, oI0, oEq, oIx, dTst, dAndT, dOrT, dNotT, dAndV, dOrV, dNotV, dIfE, dNil, dCons, dTup, dLst, dIxN, dCall, dCB, oAt, oAbs, gdName, gdNil, gdCons, gdTup, startD, tYesD, dIsi, List.map, List.length, List.replicate, Nat.sub_self, Nat.reduceSub, Nat.reduceAdd, List.reduceReplicate, List.append_nil, List.nil_append, List.cons_append, List.getElem?_cons_zero, List.getElem?_cons_succ, List.set_cons_zero, List.set_cons_succ, if_true, if_false, Bool.not_true, Bool.not_false, Bool.false_eq_true, decide_true, decide_false, true_and, and_true]
              have ge : ¬ t < bd := fun q => kn (k2.mpr q)
              refine hJ _ _ ⟨done ++ [x], todo, _, hi, _, _, _, _, _, e1', rfl, rfl, rfl, .inr ⟨t, w, rfl, rfl, h3, ⟨y, List.mem_append_left _ hy, h4⟩, fun z hz hs => ?_⟩, hh.skip sn, hzr'⟩
              rcases List.mem_append.mp hz with q | q
              · exact h5 z q hs
              · rw [List.mem_singleton.mp q]
                exact row_sink sp' (by rw [hb]; exact Rat.le_refl) (Rat.not_lt.mp ge)
  · rintro _ _ ⟨done, todo, lo, hi, wi, o4, o5, o6, o7, e1, e2, rfl, rfl, hl, hh, hzr⟩
    cases todo with
    | cons y todo => cases e2
    | nil =>
      rw [List.append_nil] at e1
      subst e1
      rcases hl with ⟨rfl, h2⟩ | ⟨t, w, rfl, rfl, h3, ⟨y, hy, h4⟩, h5⟩
      · simp only [oIsN, sRet, sSeq, sIf, sNext, sSet, sPar, sAsg, sFor, sNever, sCont, dVar, dC, dNeg, dBin, oI, oI0, oEq, oIx, dTst, dAndT, dOrT, dNotT, dAndV, dOrV, dNotV, dIfE, dNil, dCons, dTup, dLst, dIxN, dCall, dCB, oAt, oAbs, gdName, gdNil, gdCons, gdTup, startD, tYesD, dIsi, List.map, List.length, List.replicate, Nat.sub_self, Nat.reduceSub, Nat.reduceAdd, List.reduceReplicate, List.append_nil, List.nil_append, List.cons_append, List.getElem?_cons_zero, List.getElem?_cons_succ, List.set_cons_zero, List.set_cons_succ, if_true, if_false, Bool.not_true, Bool.not_false, Bool.false_eq_true, decide_true, decide_false, true_and, and_true]
        exact hno fun t ht ⟨x, hx, hs, _⟩ _ => h2 x hx hs
      · rcases hh with ⟨rfl, k2⟩ | ⟨s, rfl, k3, ⟨v, hv, k4⟩, k5⟩
        · obtain ⟨x, hx, hs⟩ := hgrow ⟨y, hy, h4.2.1⟩
          exact absurd hs (k2 x hx)
        · simp only [oIsN, sp_order, sRet, sSeq, sIf, sNext, sSet, sPar, sAsg, sFor, sNever, sCont, dVar, dC, dNeg, dBin, oI, oI0, oEq, oIx, dTst, dAndT, dOrT, dNotT, dAndV, dOrV, dNotV, dIfE, dNil, dCons, dTup, dLst, dIxN, dCall, dCB, oAt, oAbs, gdName, gdNil, gdCons, gdTup, startD, tYesD, dIsi, List.map, List.length, List.replicate, Nat.sub_self, Nat.reduceSub, Nat.reduceAdd, List.reduceReplicate, List.append_nil, List.nil_append, List.cons_append, List.getElem?_cons_zero, List.getElem?_cons_succ, List.set_cons_zero, List.set_cons_succ, if_true, if_false, Bool.not_true, Bool.not_false, Bool.false_eq_true, decide_true, decide_false, true_and, and_true]
          refine ⟨t, s, 3000, 3000, rfl, h3, k3, by decide, fun k k1 k2 => ?_⟩
          by_cases kn : 0 ≤ k
          · simp only [kn, sRet, sSeq, sIf, sNext, sSet, sPar, sAsg, sFor, sNever, sCont, dVar, dC, dNeg, dBin, oI, oI0, oEq, oIx, dTst, dAndT, dOrT, dNotT, dAndV, dOrV, dNotV, dIfE, dNil, dCons, dTup, dLst, dIxN, dCall, dCB, oAt, oAbs, gdName, gdNil, gdCons, gdTup, startD, tYesD, dIsi, List.map, List.length, List.replicate, Nat.sub_self, Nat.reduceSub, Nat.reduceAdd, List.reduceReplicate, List.append_nil, List.nil_append, List.cons_append, List.getElem?_cons_zero, List.getElem?_cons_succ, List.set_cons_zero, List.set_cons_succ, if_true, if_false, Bool.not_true, Bool.not_false, Bool.false_eq_true, decide_true, decide_false, true_and, and_true]
            refine hno fun t' ht' hx hm => ?_
            have a1 : ¬ t < s := fun q => by have := k1.mpr q; omega
            have a2 : rowT v t' < 0 := by
              rcases hm v hv with q | q
              · exact q
              · exact absurd q.2 (by have := k4.1; grind)
            have a3 := row_grow_lt k4.1 k4.2 a2
            have a4 : rowT y t' ≤ 0 := by
              rcases hm y hy with q | q
              · exact Rat.le_of_lt q
              · rw [q.1]; exact Rat.le_refl
            have a5 := row_sink_ge h4.2.1 h4.2.2 a4
            grind
          · simp only [kn, sRet, sSeq, sIf, sNext, sSet, sPar, sAsg, sFor, sNever, sCont, dVar, dC, dNeg, dBin, oI, oI0, oEq, oIx, dTst, dAndT, dOrT, dNotT, dAndV, dOrV, dNotV, dIfE, dNil, dCons, dTup, dLst, dIxN, dCall, dCB, oAt, oAbs, gdName, gdNil, gdCons, gdTup, startD, tYesD, dIsi, List.map, List.length, List.replicate, Nat.sub_self, Nat.reduceSub, Nat.reduceAdd, List.reduceReplicate, List.append_nil, List.nil_append, List.cons_append, List.getElem?_cons_zero, List.getElem?_cons_succ, List.set_cons_zero, List.set_cons_succ, if_true, if_false, Bool.not_true, Bool.not_false, Bool.false_eq_true, decide_true, decide_false, true_and, and_true]
            have lt := k1.mp (by omega)
            by_cases tn : t.num < 0
            · simp only [tn, sRet, sSeq, sIf, sNext, sSet, sPar, sAsg, sFor, sNever, sCont, dVar, dC, dNeg, dBin, oI, oI0, oEq, oIx, dTst, dAndT, dOrT, dNotT, dAndV, dOrV, dNotV, dIfE, dNil, dCons, dTup, dLst, dIxN, dCall, dCB, oAt, oAbs, gdName, gdNil, gdCons, gdTup, startD, tYesD, dIsi, List.map, List.length, List.replicate, Nat.sub_self, Nat.reduceSub, Nat.reduceAdd, List.reduceReplicate, List.append_nil, List.nil_append, List.cons_append, List.getElem?_cons_zero, List.getElem?_cons_succ, List.set_cons_zero, List.set_cons_succ, if_true, if_false, Bool.not_true, Bool.not_false, Bool.false_eq_true, decide_true, decide_false, true_and, and_true]
              have tn' := (num_neg _).mp tn
              refine hno fun t' ht' hx hm => ?_
              obtain ⟨x, hx, hs, hr⟩ := hx
              have := row_sink_le hs (h5 x hx hs) hr
              grind
            · simp only [tn, sRet, sSeq, sIf, sNext, sSet, sPar, sAsg, sFor, sNever, sCont, dVar, dC, dNeg, dBin, oI, oI0, oEq, oIx, dTst, dAndT, dOrT, dNotT, dAndV, dOrV, dNotV, dIfE, dNil, dCons, dTup, dLst, dIxN, dCall, dCB, oAt, oAbs, gdName, gdNil, gdCons, gdTup, startD, tYesD, dIsi, List.map, List.length, List.replicate, Nat.sub_self, Nat.reduceSub, Nat.reduceAdd, List.reduceReplicate, List.append_nil, List.nil_append, List.cons_append, List.getElem?_cons_zero, List.getElem?_cons_succ, List.set_cons_zero, List.set_cons_succ, if_true, if_false, Bool.not_true, Bool.not_false, Bool.false_eq_true, decide_true, decide_false, true_and, and_true]
              have tn' : 0 ≤ t := (num_nonneg _).mp (by omega)
              refine hyes t w h3 tn' ⟨y, hy, h4⟩ fun x hx => ?_
              by_cases s1 : x.2.2 < 0
              · have := h5 x hx s1
                grind
              · by_cases s2 : x.2.2 = 0
                · left
                  unfold rowT
                  rw [s2]
                  have := hzr x hx s2
                  grind
                · left
                  exact row_grow (by grind) (k5 x hx (by grind)) lt
end K23
/-! the readings keep the promises: meets_now, first_held, first -/
namespace K23
open PySem PySem.Spec PyProof.Rows L2
theorem rd_meets_now : Rd 3 5 sp_meets_now t_meets_now := by
  rintro _ ⟨dk, ow⟩ R - ho ⟨a, b, t, rfl, hp, ht, h⟩
  cases ho
  simp only [t_meets_now, iTupD, sp_pair_ways, sRet, sSeq, sIf, sNext, sSet, sPar, sAsg, sFor, sNever, sCont, dVar, dC, dNeg, dBin, oI, oI0, oEq, oIx, dTst, dAndT, dOrT, dNotT, dAndV, dOrV, dNotV, dIfE, dNil, dCons, dTup, dLst, dIxN, dCall, dCB, oAt, oAbs, gdName, gdNil, gdCons, gdTup, startD, tYesD, dIsi, List.map, List.length, List.replicate, Nat.sub_self, Nat.reduceSub, Nat.reduceAdd, List.reduceReplicate, List.append_nil, List.nil_append, List.cons_append, List.getElem?_cons_zero, List.getElem?_cons_succ, List.set_cons_zero, List.set_cons_succ, if_true, if_false, Bool.not_true, Bool.not_false, Bool.false_eq_true, decide_true, decide_false, true_and, and_true]
  refine ⟨a, b, rfl, hp, fun ws hw hl => ?_⟩
  refine loop_rule (fun items ds m => ∃ (done todo : List P2) (o3 o4 : Option D), ws = done ++ todo ∧ items = todo.map dPr ∧ ds = [some (dB a), some (dB b), some (dQ t), o3, o4] ∧ m = ⟨dk, none⟩ ∧ ∀ w ∈ done, gapT a.o b.o w t < 0 ∨ gapT a.o b.o w t = 0 ∧ rateT a.o b.o w < 0) ?_ ?_ _ _ _ ⟨[], ws, _, _, rfl, rfl, rfl, rfl, by simp⟩
  · rintro z xs _ _ J ⟨done, todo, o3, o4, e1, e2, rfl, rfl, hd⟩ hJ
    cases todo with
    | nil => cases e2
    | cons w todo =>
      cases e2
      have mw : w ∈ PW a.o b.o := (hw w).mp (by rw [e1]; simp)
      have bw := PW_BW hp w mw
      simp only [sp_gap, sp_rate, sRet, sSeq, sIf, sNext, sSet, sPar, sAsg, sFor, sNever, sCont, dVar, dC, dNeg, dBin, oI, oI0, oEq, oIx, dTst, dAndT, dOrT, dNotT, dAndV, dOrV, dNotV, dIfE, dNil, dCons, dTup, dLst, dIxN, dCall, dCB, oAt, oAbs, gdName, gdNil, gdCons, gdTup, startD, tYesD, dIsi, List.map, List.length, List.replicate, Nat.sub_self, Nat.reduceSub, Nat.reduceAdd, List.reduceReplicate, List.append_nil, List.nil_append, List.cons_append, List.getElem?_cons_zero, List.getElem?_cons_succ, List.set_cons_zero, List.set_cons_succ, if_true, if_false, Bool.not_true, Bool.not_false, Bool.false_eq_true, decide_true, decide_false, true_and, and_true]
      refine ⟨a, b, w, t, 22, 5600, dQ t, rfl, .inl rfl, hp, bw, ht, by decide, ?_⟩
      have bad : (0 < gapT a.o b.o w t ∨ gapT a.o b.o w t = 0 ∧ 0 ≤ rateT a.o b.o w) → R (.bl false) ⟨dk, none⟩ := fun q => h false ⟨fun k => (by cases k), fun k => by
        have := k w mw
        rcases q with q | q <;> grind⟩
      have good : (gapT a.o b.o w t < 0 ∨ gapT a.o b.o w t = 0 ∧ rateT a.o b.o w < 0) → ∀ o3 o4, J [some (dB a), some (dB b), some (dQ t), o3, o4] ⟨dk, none⟩ := fun q o3 o4 => hJ _ _ ⟨done ++ [w], todo, o3, o4, by rw [e1]; simp, rfl, rfl, rfl, fun v hv => by
        rcases List.mem_append.mp hv with k | k
        · exact hd v k
        · rw [List.mem_singleton.mp k]; exact q⟩
      by_cases p1 : 0 < (gapT a.o b.o w t).num
      · simp only [p1, sRet, sSeq, sIf, sNext, sSet, sPar, sAsg, sFor, sNever, sCont, dVar, dC, dNeg, dBin, oI, oI0, oEq, oIx, dTst, dAndT, dOrT, dNotT, dAndV, dOrV, dNotV, dIfE, dNil, dCons, dTup, dLst, dIxN, dCall, dCB, oAt, oAbs, gdName, gdNil, gdCons, gdTup, startD, tYesD, dIsi, List.map, List.length, List.replicate, Nat.sub_self, Nat.reduceSub, Nat.reduceAdd, List.reduceReplicate, List.append_nil, List.nil_append, List.cons_append, List.getElem?_cons_zero, List.getElem?_cons_succ, List.set_cons_zero, List.set_cons_succ, if_true, if_false, Bool.not_true, Bool.not_false, Bool.false_eq_true, decide_true, decide_false, true_and, and_true]
        exact bad (.inl ((num_pos _).mp p1))
      · simp only [p1, sRet, sSeq, sIf, sNext, sSet, sPar, sAsg, sFor, sNever, sCont, dVar, dC, dNeg, dBin, oI, oI0, oEq, oIx, dTst, dAndT, dOrT, dNotT, dAndV, dOrV, dNotV, dIfE, dNil, dCons, dTup, dLst, dIxN, dCall, dCB, oAt, oAbs, gdName, gdNil, gdCons, gdTup, startD, tYesD, dIsi, List.map, List.length, List.replicate, Nat.sub_self, Nat.reduceSub, Nat.reduceAdd, List.reduceReplicate, List.append_nil, List.nil_append, List.cons_append, List.getElem?_cons_zero, List.getElem?_cons_succ, List.set_cons_zero, List.set_cons_succ, if_true, if_false, Bool.not_true, Bool.not_false, Bool.false_eq_true, decide_true, decide_false, true_and, and_true]
        by_cases p2 : (gapT a.o b.o w t).num = 0
        · simp only [p2, sRet, sSeq, sIf, sNext, sSet, sPar, sAsg, sFor, sNever, sCont, dVar, dC, dNeg, dBin, oI, oI0, oEq, oIx, dTst, dAndT, dOrT, dNotT, dAndV, dOrV, dNotV, dIfE, dNil, dCons, dTup, dLst, dIxN, dCall, dCB, oAt, oAbs, gdName, gdNil, gdCons, gdTup, startD, tYesD, dIsi, List.map, List.length, List.replicate, Nat.sub_self, Nat.reduceSub, Nat.reduceAdd, List.reduceReplicate, List.append_nil, List.nil_append, List.cons_append, List.getElem?_cons_zero, List.getElem?_cons_succ, List.set_cons_zero, List.set_cons_succ, if_true, if_false, Bool.not_true, Bool.not_false, Bool.false_eq_true, decide_true, decide_false, true_and, and_true]
          refine ⟨a, b, w, 22, rfl, hp, bw, by decide, ?_⟩
          by_cases p3 : 0 ≤ (rateT a.o b.o w).num
          · simp only [p3, sRet, sSeq, sIf, sNext, sSet, sPar, sAsg, sFor, sNever, sCont, dVar, dC, dNeg, dBin, oI, oI0, oEq, oIx, dTst, dAndT, dOrT, dNotT, dAndV, dOrV, dNotV, dIfE, dNil, dCons, dTup, dLst, dIxN, dCall, dCB, oAt, oAbs, gdName, gdNil, gdCons, gdTup, startD, tYesD, dIsi, List.map, List.length, List.replicate, Nat.sub_self, Nat.reduceSub, Nat.reduceAdd, List.reduceReplicate, List.append_nil, List.nil_append, List.cons_append, List.getElem?_cons_zero, List.getElem?_cons_succ, List.set_cons_zero, List.set_cons_succ, if_true, if_false, Bool.not_true, Bool.not_false, Bool.false_eq_true, decide_true, decide_false, true_and, and_true]
            exact bad (.inr ⟨(num_zero _).mp p2, (num_nonneg _).mp p3⟩)
          · simp only [p3, sRet, sSeq, sIf, sNext, sSet, sPar, sAsg, sFor, sNever, sCont, dVar, dC, dNeg, dBin, oI, oI0, oEq, oIx, dTst, dAndT, dOrT, dNotT, dAndV, dOrV, dNotV, dIfE, dNil, dCons, dTup, dLst, dIxN, dCall, dCB, oAt, oAbs, gdName, gdNil, gdCons, gdTup, startD, tYesD, dIsi, List.map, List.length, List.replicate, Nat.sub_self, Nat.reduceSub, Nat.reduceAdd, List.reduceReplicate, List.append_nil, List.nil_append, List.cons_append, List.getElem?_cons_zero, List.getElem?_cons_succ, List.set_cons_zero, List.set_cons_succ, if_true, if_false, Bool.not_true, Bool.not_false, Bool.false_eq_true, decide_true, decide_false, true_and, and_true]
            exact good (.inr ⟨(num_zero _).mp p2, (num_neg _).mp (by omega)⟩) _ _
        · simp only [p2, sRet, sSeq, sIf, sNext, sSet, sPar, sAsg, sFor, sNever, sCont, dVar, dC, dNeg, dBin, oI, oI0, oEq, oIx, dTst, dAndT, dOrT, dNotT, dAndV, dOrV, dNotV, dIfE, dNil, dCons, dTup, dLst, dIxN, dCall, dCB, oAt, oAbs, gdName, gdNil, gdCons, gdTup, startD, tYesD, dIsi, List.map, List.length, List.replicate, Nat.sub_self, Nat.reduceSub, Nat.reduceAdd, List.reduceReplicate, List.append_nil, List.nil_append, List.cons_append, List.getElem?_cons_zero, List.getElem?_cons_succ, List.set_cons_zero, List.set_cons_succ, if_true, if_false, Bool.not_true, Bool.not_false, Bool.false_eq_true, decide_true, decide_false, true_and, and_true]
          exact good (.inl ((num_neg _).mp (by omega))) _ _
  · rintro _ _ ⟨done, todo, o3, o4, e1, e2, rfl, rfl, hd⟩
    cases todo with
    | cons y todo => cases e2
    | nil =>
      rw [List.append_nil] at e1
      subst e1
      simp only [sRet, sSeq, sIf, sNext, sSet, sPar, sAsg, sFor, sNever, sCont, dVar, dC, dNeg, dBin, oI, oI0, oEq, oIx, dTst, dAndT, dOrT, dNotT, dAndV, dOrV, dNotV, dIfE, dNil, dCons, dTup, dLst, dIxN, dCall, dCB, oAt, oAbs, gdName, gdNil, gdCons, gdTup, startD, tYesD, dIsi, List.map, List.length, List.replicate, Nat.sub_self, Nat.reduceSub, Nat.reduceAdd, List.reduceReplicate, List.append_nil, List.nil_append, List.cons_append, List.getElem?_cons_zero, List.getElem?_cons_succ, List.set_cons_zero, List.set_cons_succ, if_true, if_false, Bool.not_true, Bool.not_false, Bool.false_eq_true, decide_true, decide_false, true_and, and_true]
      exact h true ⟨fun _ w hw' => hd w ((hw w).mpr hw'), fun _ => rfl⟩
theorem gap_zero (a b : Bo) (w : P2) : gapT a b w 0 = dq w (far a b) - (shut a b w : Rat) := by unfold gapT; grind
theorem gap_row (a b : Bo) (w : P2) (t : Rat) : rowT (w, gapT a b w 0, rateT a b w) t = gapT a b w t := by
  rw [gap_zero]
  unfold rowT gapT
  rfl
theorem ne_words : ¬ ((Str.ofString "clear") = (Str.ofString "meets")) := by decide
theorem ne_words' : ¬ ((Str.ofString "meets") = (Str.ofString "clear")) := by decide
theorem rd_first_held : Rd 4 7 sp_first_held t_first_held := by
  rintro _ ⟨dk, ow⟩ R - ho ⟨a, b, u, p, rfl, hp, hu, hk, h⟩
  cases ho
  cases p with
  | clear w =>
    simp only [t_first_held, dPap, oLen, oNotIn, sp_is_way, sRet, sSeq, sIf, sNext, sSet, sPar, sAsg, sFor, sNever, sCont, dVar, dC, dNeg, dBin, oI, oI0, oEq, oIx, dTst, dAndT, dOrT, dNotT, dAndV, dOrV, dNotV, dIfE, dNil, dCons, dTup, dLst, dIxN, dCall, dCB, oAt, oAbs, gdName, gdNil, gdCons, gdTup, startD, tYesD, dIsi, List.map, List.length, List.replicate, Nat.sub_self, Nat.reduceSub, Nat.reduceAdd, List.reduceReplicate, List.append_nil, List.nil_append, List.cons_append, List.getElem?_cons_zero, List.getElem?_cons_succ, List.set_cons_zero, List.set_cons_succ, if_true, if_false, Bool.not_true, Bool.not_false, Bool.false_eq_true, decide_true, decide_false, true_and, and_true]
    refine ⟨[2, 3], rfl, ?_⟩
    simp only [List.mem_cons, Int.cast_ofNat_Int, true_or, sRet, sSeq, sIf, sNext, sSet, sPar, sAsg, sFor, sNever, sCont, dVar, dC, dNeg, dBin, oI, oI0, oEq, oIx, dTst, dAndT, dOrT, dNotT, dAndV, dOrV, dNotV, dIfE, dNil, dCons, dTup, dLst, dIxN, dCall, dCB, oAt, oAbs, gdName, gdNil, gdCons, gdTup, startD, tYesD, dIsi, List.map, List.length, List.replicate, Nat.sub_self, Nat.reduceSub, Nat.reduceAdd, List.reduceReplicate, List.append_nil, List.nil_append, List.cons_append, List.getElem?_cons_zero, List.getElem?_cons_succ, List.set_cons_zero, List.set_cons_succ, if_true, if_false, Bool.not_true, Bool.not_false, Bool.false_eq_true, decide_true, decide_false, true_and, and_true]
    refine ⟨w, rfl, ?_⟩
    by_cases g : Int.gcd w.1 w.2 = 1
    · simp only [g, sp_gap3, sp_gap, sRet, sSeq, sIf, sNext, sSet, sPar, sAsg, sFor, sNever, sCont, dVar, dC, dNeg, dBin, oI, oI0, oEq, oIx, dTst, dAndT, dOrT, dNotT, dAndV, dOrV, dNotV, dIfE, dNil, dCons, dTup, dLst, dIxN, dCall, dCB, oAt, oAbs, gdName, gdNil, gdCons, gdTup, startD, tYesD, dIsi, List.map, List.length, List.replicate, Nat.sub_self, Nat.reduceSub, Nat.reduceAdd, List.reduceReplicate, List.append_nil, List.nil_append, List.cons_append, List.getElem?_cons_zero, List.getElem?_cons_succ, List.set_cons_zero, List.set_cons_succ, if_true, if_false, Bool.not_true, Bool.not_false, Bool.false_eq_true, decide_true, decide_false, true_and, and_true]
      refine ⟨a, b, w, 1850, rfl, hp, hk, by decide, ?_⟩
      by_cases p1 : 0 ≤ (gapT a.o b.o w 0).num
      · simp only [p1, sRet, sSeq, sIf, sNext, sSet, sPar, sAsg, sFor, sNever, sCont, dVar, dC, dNeg, dBin, oI, oI0, oEq, oIx, dTst, dAndT, dOrT, dNotT, dAndV, dOrV, dNotV, dIfE, dNil, dCons, dTup, dLst, dIxN, dCall, dCB, oAt, oAbs, gdName, gdNil, gdCons, gdTup, startD, tYesD, dIsi, List.map, List.length, List.replicate, Nat.sub_self, Nat.reduceSub, Nat.reduceAdd, List.reduceReplicate, List.append_nil, List.nil_append, List.cons_append, List.getElem?_cons_zero, List.getElem?_cons_succ, List.set_cons_zero, List.set_cons_succ, if_true, if_false, Bool.not_true, Bool.not_false, Bool.false_eq_true, decide_true, decide_false, true_and, and_true]
        refine ⟨a, b, w, u, 1850, 100, dQ u, rfl, .inl rfl, hp, hk, hu, by decide, h _ ?_⟩
        rw [decide_eq_true_eq, num_nonneg]
        exact ⟨fun q => ⟨g, (num_nonneg _).mp p1, q⟩, fun q => q.2.2⟩
      · simp only [p1, sRet, sSeq, sIf, sNext, sSet, sPar, sAsg, sFor, sNever, sCont, dVar, dC, dNeg, dBin, oI, oI0, oEq, oIx, dTst, dAndT, dOrT, dNotT, dAndV, dOrV, dNotV, dIfE, dNil, dCons, dTup, dLst, dIxN, dCall, dCB, oAt, oAbs, gdName, gdNil, gdCons, gdTup, startD, tYesD, dIsi, List.map, List.length, List.replicate, Nat.sub_self, Nat.reduceSub, Nat.reduceAdd, List.reduceReplicate, List.append_nil, List.nil_append, List.cons_append, List.getElem?_cons_zero, List.getElem?_cons_succ, List.set_cons_zero, List.set_cons_succ, if_true, if_false, Bool.not_true, Bool.not_false, Bool.false_eq_true, decide_true, decide_false, true_and, and_true]
        refine h _ ⟨fun q => (by cases q), fun q => absurd ((num_nonneg _).mpr q.2.1) p1⟩
    · simp only [g, sRet, sSeq, sIf, sNext, sSet, sPar, sAsg, sFor, sNever, sCont, dVar, dC, dNeg, dBin, oI, oI0, oEq, oIx, dTst, dAndT, dOrT, dNotT, dAndV, dOrV, dNotV, dIfE, dNil, dCons, dTup, dLst, dIxN, dCall, dCB, oAt, oAbs, gdName, gdNil, gdCons, gdTup, startD, tYesD, dIsi, List.map, List.length, List.replicate, Nat.sub_self, Nat.reduceSub, Nat.reduceAdd, List.reduceReplicate, List.append_nil, List.nil_append, List.cons_append, List.getElem?_cons_zero, List.getElem?_cons_succ, List.set_cons_zero, List.set_cons_succ, if_true, if_false, Bool.not_true, Bool.not_false, Bool.false_eq_true, decide_true, decide_false, true_and, and_true]
      refine h _ ⟨fun q => (by cases q), fun q => absurd q.1 g⟩
  | meets t w =>
    simp only [t_first_held, dPap, oLen, oNotIn, sRet, sSeq, sIf, sNext, sSet, sPar, sAsg, sFor, sNever, sCont, dVar, dC, dNeg, dBin, oI, oI0, oEq, oIx, dTst, dAndT, dOrT, dNotT, dAndV, dOrV, dNotV, dIfE, dNil, dCons, dTup, dLst, dIxN, dCall, dCB, oAt, oAbs, gdName, gdNil, gdCons, gdTup, startD, tYesD, dIsi, List.map, List.length, List.replicate, Nat.sub_self, Nat.reduceSub, Nat.reduceAdd, List.reduceReplicate, List.append_nil, List.nil_append, List.cons_append, List.getElem?_cons_zero, List.getElem?_cons_succ, List.set_cons_zero, List.set_cons_succ, if_true, if_false, Bool.not_true, Bool.not_false, Bool.false_eq_true, decide_true, decide_false, true_and, and_true]
    refine ⟨[2, 3], rfl, ?_⟩
    have e32 : ¬ ((3 : Int) = 2) := by decide
    simp only [List.mem_cons, Int.cast_ofNat_Int, e32, true_or, or_true, sp_is_share, sRet, sSeq, sIf, sNext, sSet, sPar, sAsg, sFor, sNever, sCont, dVar, dC, dNeg, dBin, oI, oI0, oEq, oIx, dTst, dAndT, dOrT, dNotT, dAndV, dOrV, dNotV, dIfE, dNil, dCons, dTup, dLst, dIxN, dCall, dCB, oAt, oAbs, gdName, gdNil, gdCons, gdTup, startD, tYesD, dIsi, List.map, List.length, List.replicate, Nat.sub_self, Nat.reduceSub, Nat.reduceAdd, List.reduceReplicate, List.append_nil, List.nil_append, List.cons_append, List.getElem?_cons_zero, List.getElem?_cons_succ, List.set_cons_zero, List.set_cons_succ, if_true, if_false, Bool.not_true, Bool.not_false, Bool.false_eq_true, decide_true, decide_false, true_and, and_true]
    refine ⟨⟨t, rfl⟩, ?_⟩
    have no : ¬ Held a.o b.o u (.meets t w) → R (.bl false) ⟨dk, none⟩ := fun q => h false ⟨fun k => (by cases k), fun k => absurd k q⟩
    by_cases t0 : t.num < 0
    · simp only [t0, sRet, sSeq, sIf, sNext, sSet, sPar, sAsg, sFor, sNever, sCont, dVar, dC, dNeg, dBin, oI, oI0, oEq, oIx, dTst, dAndT, dOrT, dNotT, dAndV, dOrV, dNotV, dIfE, dNil, dCons, dTup, dLst, dIxN, dCall, dCB, oAt, oAbs, gdName, gdNil, gdCons, gdTup, startD, tYesD, dIsi, List.map, List.length, List.replicate, Nat.sub_self, Nat.reduceSub, Nat.reduceAdd, List.reduceReplicate, List.append_nil, List.nil_append, List.cons_append, List.getElem?_cons_zero, List.getElem?_cons_succ, List.set_cons_zero, List.set_cons_succ, if_true, if_false, Bool.not_true, Bool.not_false, Bool.false_eq_true, decide_true, decide_false, true_and, and_true]
      refine no fun q => ?_
      have := (num_neg _).mp t0
      have := q.1
      grind
    · simp only [t0, sp_order, sRet, sSeq, sIf, sNext, sSet, sPar, sAsg, sFor, sNever, sCont, dVar, dC, dNeg, dBin, oI, oI0, oEq, oIx, dTst, dAndT, dOrT, dNotT, dAndV, dOrV, dNotV, dIfE, dNil, dCons, dTup, dLst, dIxN, dCall, dCB, oAt, oAbs, gdName, gdNil, gdCons, gdTup, startD, tYesD, dIsi, List.map, List.length, List.replicate, Nat.sub_self, Nat.reduceSub, Nat.reduceAdd, List.reduceReplicate, List.append_nil, List.nil_append, List.cons_append, List.getElem?_cons_zero, List.getElem?_cons_succ, List.set_cons_zero, List.set_cons_succ, if_true, if_false, Bool.not_true, Bool.not_false, Bool.false_eq_true, decide_true, decide_false, true_and, and_true]
      have t0' := (num_nonneg t).mp (by omega)
      refine ⟨t, u, 5600, 100, rfl, hk.1, hu, by decide, fun k k1 k2 => ?_⟩
      by_cases kn : 0 ≤ k
      · simp only [kn, sRet, sSeq, sIf, sNext, sSet, sPar, sAsg, sFor, sNever, sCont, dVar, dC, dNeg, dBin, oI, oI0, oEq, oIx, dTst, dAndT, dOrT, dNotT, dAndV, dOrV, dNotV, dIfE, dNil, dCons, dTup, dLst, dIxN, dCall, dCB, oAt, oAbs, gdName, gdNil, gdCons, gdTup, startD, tYesD, dIsi, List.map, List.length, List.replicate, Nat.sub_self, Nat.reduceSub, Nat.reduceAdd, List.reduceReplicate, List.append_nil, List.nil_append, List.cons_append, List.getElem?_cons_zero, List.getElem?_cons_succ, List.set_cons_zero, List.set_cons_succ, if_true, if_false, Bool.not_true, Bool.not_false, Bool.false_eq_true, decide_true, decide_false, true_and, and_true]
        exact no fun q => by have := k1.mpr q.2.1; omega
      · simp only [kn, sp_is_way, sRet, sSeq, sIf, sNext, sSet, sPar, sAsg, sFor, sNever, sCont, dVar, dC, dNeg, dBin, oI, oI0, oEq, oIx, dTst, dAndT, dOrT, dNotT, dAndV, dOrV, dNotV, dIfE, dNil, dCons, dTup, dLst, dIxN, dCall, dCB, oAt, oAbs, gdName, gdNil, gdCons, gdTup, startD, tYesD, dIsi, List.map, List.length, List.replicate, Nat.sub_self, Nat.reduceSub, Nat.reduceAdd, List.reduceReplicate, List.append_nil, List.nil_append, List.cons_append, List.getElem?_cons_zero, List.getElem?_cons_succ, List.set_cons_zero, List.set_cons_succ, if_true, if_false, Bool.not_true, Bool.not_false, Bool.false_eq_true, decide_true, decide_false, true_and, and_true]
        have lt := k1.mp (by omega)
        refine ⟨w, rfl, ?_⟩
        by_cases g : Int.gcd w.1 w.2 = 1
        · simp only [g, sp_pair_ways, sRet, sSeq, sIf, sNext, sSet, sPar, sAsg, sFor, sNever, sCont, dVar, dC, dNeg, dBin, oI, oI0, oEq, oIx, dTst, dAndT, dOrT, dNotT, dAndV, dOrV, dNotV, dIfE, dNil, dCons, dTup, dLst, dIxN, dCall, dCB, oAt, oAbs, gdName, gdNil, gdCons, gdTup, startD, tYesD, dIsi, List.map, List.length, List.replicate, Nat.sub_self, Nat.reduceSub, Nat.reduceAdd, List.reduceReplicate, List.append_nil, List.nil_append, List.cons_append, List.getElem?_cons_zero, List.getElem?_cons_succ, List.set_cons_zero, List.set_cons_succ, if_true, if_false, Bool.not_true, Bool.not_false, Bool.false_eq_true, decide_true, decide_false, true_and, and_true]
          refine ⟨a, b, rfl, hp, fun ws hw hl => ⟨ws, rfl, ?_⟩⟩
          by_cases m : (w.1, w.2) ∈ ws
          · have m' : w ∈ PW a.o b.o := (hw w).mp m
            simp only [m, sp_gap, sp_rate, sRet, sSeq, sIf, sNext, sSet, sPar, sAsg, sFor, sNever, sCont, dVar, dC, dNeg, dBin, oI, oI0, oEq, oIx, dTst, dAndT, dOrT, dNotT, dAndV, dOrV, dNotV, dIfE, dNil, dCons, dTup, dLst, dIxN, dCall, dCB, oAt, oAbs, gdName, gdNil, gdCons, gdTup, startD, tYesD, dIsi, List.map, List.length, List.replicate, Nat.sub_self, Nat.reduceSub, Nat.reduceAdd, List.reduceReplicate, List.append_nil, List.nil_append, List.cons_append, List.getElem?_cons_zero, List.getElem?_cons_succ, List.set_cons_zero, List.set_cons_succ, if_true, if_false, Bool.not_true, Bool.not_false, Bool.false_eq_true, decide_true, decide_false, true_and, and_true]
            refine ⟨a, b, w, t, 22, 5600, dQ t, rfl, .inl rfl, hp, hk.2, hk.1, by decide, ?_⟩
            by_cases p1 : (gapT a.o b.o w t).num = 0
            · simp only [p1, sRet, sSeq, sIf, sNext, sSet, sPar, sAsg, sFor, sNever, sCont, dVar, dC, dNeg, dBin, oI, oI0, oEq, oIx, dTst, dAndT, dOrT, dNotT, dAndV, dOrV, dNotV, dIfE, dNil, dCons, dTup, dLst, dIxN, dCall, dCB, oAt, oAbs, gdName, gdNil, gdCons, gdTup, startD, tYesD, dIsi, List.map, List.length, List.replicate, Nat.sub_self, Nat.reduceSub, Nat.reduceAdd, List.reduceReplicate, List.append_nil, List.nil_append, List.cons_append, List.getElem?_cons_zero, List.getElem?_cons_succ, List.set_cons_zero, List.set_cons_succ, if_true, if_false, Bool.not_true, Bool.not_false, Bool.false_eq_true, decide_true, decide_false, true_and, and_true]
              refine ⟨a, b, w, 22, rfl, hp, hk.2, by decide, ?_⟩
              by_cases p2 : (rateT a.o b.o w).num < 0
              · simp only [p2, sp_meets_now, sRet, sSeq, sIf, sNext, sSet, sPar, sAsg, sFor, sNever, sCont, dVar, dC, dNeg, dBin, oI, oI0, oEq, oIx, dTst, dAndT, dOrT, dNotT, dAndV, dOrV, dNotV, dIfE, dNil, dCons, dTup, dLst, dIxN, dCall, dCB, oAt, oAbs, gdName, gdNil, gdCons, gdTup, startD, tYesD, dIsi, List.map, List.length, List.replicate, Nat.sub_self, Nat.reduceSub, Nat.reduceAdd, List.reduceReplicate, List.append_nil, List.nil_append, List.cons_append, List.getElem?_cons_zero, List.getElem?_cons_succ, List.set_cons_zero, List.set_cons_succ, if_true, if_false, Bool.not_true, Bool.not_false, Bool.false_eq_true, decide_true, decide_false, true_and, and_true]
                refine ⟨a, b, t, rfl, hp, hk.1, fun k hk => h k ?_⟩
                rw [hk]
                exact ⟨fun q => ⟨t0', lt, g, m', (num_zero _).mp p1, (num_neg _).mp p2, q⟩, fun q => q.2.2.2.2.2.2⟩
              · simp only [p2, sRet, sSeq, sIf, sNext, sSet, sPar, sAsg, sFor, sNever, sCont, dVar, dC, dNeg, dBin, oI, oI0, oEq, oIx, dTst, dAndT, dOrT, dNotT, dAndV, dOrV, dNotV, dIfE, dNil, dCons, dTup, dLst, dIxN, dCall, dCB, oAt, oAbs, gdName, gdNil, gdCons, gdTup, startD, tYesD, dIsi, List.map, List.length, List.replicate, Nat.sub_self, Nat.reduceSub, Nat.reduceAdd, List.reduceReplicate, List.append_nil, List.nil_append, List.cons_append, List.getElem?_cons_zero, List.getElem?_cons_succ, List.set_cons_zero, List.set_cons_succ, if_true, if_false, Bool.not_true, Bool.not_false, Bool.false_eq_true, decide_true, decide_false, true_and, and_true]
                exact no fun q => p2 ((num_neg _).mpr q.2.2.2.2.2.1)
            · simp only [p1, sRet, sSeq, sIf, sNext, sSet, sPar, sAsg, sFor, sNever, sCont, dVar, dC, dNeg, dBin, oI, oI0, oEq, oIx, dTst, dAndT, dOrT, dNotT, dAndV, dOrV, dNotV, dIfE, dNil, dCons, dTup, dLst, dIxN, dCall, dCB, oAt, oAbs, gdName, gdNil, gdCons, gdTup, startD, tYesD, dIsi, List.map, List.length, List.replicate, Nat.sub_self, Nat.reduceSub, Nat.reduceAdd, List.reduceReplicate, List.append_nil, List.nil_append, List.cons_append, List.getElem?_cons_zero, List.getElem?_cons_succ, List.set_cons_zero, List.set_cons_succ, if_true, if_false, Bool.not_true, Bool.not_false, Bool.false_eq_true, decide_true, decide_false, true_and, and_true]
              exact no fun q => p1 ((num_zero _).mpr q.2.2.2.2.1)
          · simp only [m, sRet, sSeq, sIf, sNext, sSet, sPar, sAsg, sFor, sNever, sCont, dVar, dC, dNeg, dBin, oI, oI0, oEq, oIx, dTst, dAndT, dOrT, dNotT, dAndV, dOrV, dNotV, dIfE, dNil, dCons, dTup, dLst, dIxN, dCall, dCB, oAt, oAbs, gdName, gdNil, gdCons, gdTup, startD, tYesD, dIsi, List.map, List.length, List.replicate, Nat.sub_self, Nat.reduceSub, Nat.reduceAdd, List.reduceReplicate, List.append_nil, List.nil_append, List.cons_append, List.getElem?_cons_zero, List.getElem?_cons_succ, List.set_cons_zero, List.set_cons_succ, if_true, if_false, Bool.not_true, Bool.not_false, Bool.false_eq_true, decide_true, decide_false, true_and, and_true]
            exact no fun q => m ((hw w).mpr q.2.2.2.1)
        · simp only [g, sRet, sSeq, sIf, sNext, sSet, sPar, sAsg, sFor, sNever, sCont, dVar, dC, dNeg, dBin, oI, oI0, oEq, oIx, dTst, dAndT, dOrT, dNotT, dAndV, dOrV, dNotV, dIfE, dNil, dCons, dTup, dLst, dIxN, dCall, dCB, oAt, oAbs, gdName, gdNil, gdCons, gdTup, startD, tYesD, dIsi, List.map, List.length, List.replicate, Nat.sub_self, Nat.reduceSub, Nat.reduceAdd, List.reduceReplicate, List.append_nil, List.nil_append, List.cons_append, List.getElem?_cons_zero, List.getElem?_cons_succ, List.set_cons_zero, List.set_cons_succ, if_true, if_false, Bool.not_true, Bool.not_false, Bool.false_eq_true, decide_true, decide_false, true_and, and_true]
          exact no fun q => g q.2.2.1
end K23
/-! the readings keep the promises: first -/
namespace K23
open PySem PySem.Spec PyProof.Rows L2
theorem rd_first : Rd 3 10 sp_first t_first := by
  rintro _ ⟨dk, ow⟩ R - ho ⟨a, b, u, rfl, hp, hu, u0, hov, h⟩
  cases ho
  simp only [t_first, iTupD, dLc, sp_pair_ways, sRet, sSeq, sIf, sNext, sSet, sPar, sAsg, sFor, sNever, sCont, dVar, dC, dNeg, dBin, oI, oI0, oEq, oIx, dTst, dAndT, dOrT, dNotT, dAndV, dOrV, dNotV, dIfE, dNil, dCons, dTup, dLst, dIxN, dCall, dCB, oAt, oAbs, gdName, gdNil, gdCons, gdTup, startD, tYesD, dIsi, List.map, List.length, List.replicate, Nat.sub_self, Nat.reduceSub, Nat.reduceAdd, List.reduceReplicate, List.append_nil, List.nil_append, List.cons_append, List.getElem?_cons_zero, List.getElem?_cons_succ, List.set_cons_zero, List.set_cons_succ, if_true, if_false, Bool.not_true, Bool.not_false, Bool.false_eq_true, decide_true, decide_false, true_and, and_true]
  refine ⟨a, b, rfl, hp, fun ws hw hl => ?_⟩
  have hB : ∀ w ∈ ws, BW 22 w := fun w q => PW_BW hp w ((hw w).mp q)
  refine lc_map ws dPr (fun w => dRow (w, gapT a.o b.o w 0, rateT a.o b.o w)) (by omega) ?_ ?_
  · intro w hw' J hJ
    simp only [wipeD, sp_gap3, sp_rate, sRet, sSeq, sIf, sNext, sSet, sPar, sAsg, sFor, sNever, sCont, dVar, dC, dNeg, dBin, oI, oI0, oEq, oIx, dTst, dAndT, dOrT, dNotT, dAndV, dOrV, dNotV, dIfE, dNil, dCons, dTup, dLst, dIxN, dCall, dCB, oAt, oAbs, gdName, gdNil, gdCons, gdTup, startD, tYesD, dIsi, List.map, List.length, List.replicate, Nat.sub_self, Nat.reduceSub, Nat.reduceAdd, List.reduceReplicate, List.append_nil, List.nil_append, List.cons_append, List.getElem?_cons_zero, List.getElem?_cons_succ, List.set_cons_zero, List.set_cons_succ, if_true, if_false, Bool.not_true, Bool.not_false, Bool.false_eq_true, decide_true, decide_false, true_and, and_true]
    exact ⟨a, b, w, 22, rfl, hp, hB w hw', by decide, a, b, w, 22, rfl, hp, hB w hw', by decide, hJ⟩
  simp only [iLst, sRet, sSeq, sIf, sNext, sSet, sPar, sAsg, sFor, sNever, sCont, dVar, dC, dNeg, dBin, oI, oI0, oEq, oIx, dTst, dAndT, dOrT, dNotT, dAndV, dOrV, dNotV, dIfE, dNil, dCons, dTup, dLst, dIxN, dCall, dCB, oAt, oAbs, gdName, gdNil, gdCons, gdTup, startD, tYesD, dIsi, List.map, List.length, List.replicate, Nat.sub_self, Nat.reduceSub, Nat.reduceAdd, List.reduceReplicate, List.append_nil, List.nil_append, List.cons_append, List.getElem?_cons_zero, List.getElem?_cons_succ, List.set_cons_zero, List.set_cons_succ, if_true, if_false, Bool.not_true, Bool.not_false, Bool.false_eq_true, decide_true, decide_false, true_and, and_true]
  have hg0 : ∀ w ∈ ws, Bq 1100 (gapT a.o b.o w 0) := fun w q => by
    rw [gap_zero]
    exact (gap0_Bq hp (hB w q)).mono (by decide)
  have hr : ∀ w ∈ ws, Bq 1900 (rateT a.o b.o w) := fun w q => (rate_Bq hp (hB w q)).mono (by decide)
  obtain ⟨rs, hrs⟩ : ∃ rs : List Row, rs = ws.map fun w => (w, gapT a.o b.o w 0, rateT a.o b.o w) := ⟨_, rfl⟩
  have ers : ws.map (fun w => dRow (w, gapT a.o b.o w 0, rateT a.o b.o w)) = rs.map dRow := by rw [hrs, List.map_map]; rfl
  have lrs : rs.length ≤ 80 := by rw [hrs, List.length_map]; exact hl
  have mrs : ∀ x ∈ rs, ∃ w ∈ ws, x = (w, gapT a.o b.o w 0, rateT a.o b.o w) := fun x hx => by
    rw [hrs] at hx
    obtain ⟨w, q, e⟩ := List.mem_map.mp hx
    exact ⟨w, q, e.symm⟩
  have mrs' : ∀ w ∈ ws, (w, gapT a.o b.o w 0, rateT a.o b.o w) ∈ rs := fun w q => by rw [hrs]; exact List.mem_map.mpr ⟨w, q, rfl⟩
  have met_iff : ∀ t, MetR rs t ↔ MetAt a.o b.o t := fun t => by
    constructor
    · intro q w hw'
      have := q _ (mrs' w ((hw w).mpr hw'))
      rw [gap_row] at this
      exact this
    · intro q x hx
      obtain ⟨w, hw', rfl⟩ := mrs x hx
      rw [gap_row]
      exact q w ((hw w).mp hw')
  rw [ers]
  refine lc_map rs dRow (fun x => .int x.2.1.num) (by omega) ?_ ?_
  · intro x hx J hJ
    simp only [wipeD, sRet, sSeq, sIf, sNext, sSet, sPar, sAsg, sFor, sNever, sCont, dVar, dC, dNeg, dBin, oI, oI0, oEq, oIx, dTst, dAndT, dOrT, dNotT, dAndV, dOrV, dNotV, dIfE, dNil, dCons, dTup, dLst, dIxN, dCall, dCB, oAt, oAbs, gdName, gdNil, gdCons, gdTup, startD, tYesD, dIsi, List.map, List.length, List.replicate, Nat.sub_self, Nat.reduceSub, Nat.reduceAdd, List.reduceReplicate, List.append_nil, List.nil_append, List.cons_append, List.getElem?_cons_zero, List.getElem?_cons_succ, List.set_cons_zero, List.set_cons_succ, if_true, if_false, Bool.not_true, Bool.not_false, Bool.false_eq_true, decide_true, decide_false, true_and, and_true]
    exact hJ
  have emax : rs.map (fun x => D.int x.2.1.num) = (rs.map fun x => x.2.1.num).map D.int := by rw [List.map_map]; rfl
  have hnn : ∃ x ∈ rs, 0 ≤ x.2.1 := by
    by_cases q : ∃ x ∈ rs, 0 ≤ x.2.1
    · exact q
    · exfalso
      apply hov
      intro w hw'
      have := mrs' w ((hw w).mpr hw')
      by_cases z : gapT a.o b.o w 0 < 0
      · exact z
      · exact absurd ⟨_, this, Rat.not_lt.mp z⟩ q
  obtain ⟨x0, hx0, hx0'⟩ := hnn
  rw [emax]
  simp only [oMax, sRet, sSeq, sIf, sNext, sSet, sPar, sAsg, sFor, sNever, sCont, dVar, dC, dNeg, dBin, oI, oI0, oEq, oIx, dTst, dAndT, dOrT, dNotT, dAndV, dOrV, dNotV, dIfE, dNil, dCons, dTup, dLst, dIxN, dCall, dCB, oAt, oAbs, gdName, gdNil, gdCons, gdTup, startD, tYesD, dIsi, List.map, List.length, List.replicate, Nat.sub_self, Nat.reduceSub, Nat.reduceAdd, List.reduceReplicate, List.append_nil, List.nil_append, List.cons_append, List.getElem?_cons_zero, List.getElem?_cons_succ, List.set_cons_zero, List.set_cons_succ, if_true, if_false, Bool.not_true, Bool.not_false, Bool.false_eq_true, decide_true, decide_false, true_and, and_true]
  refine ⟨rs.map fun x => x.2.1.num, rfl, by rw [List.length_map]; exact List.length_pos_of_mem hx0, fun k _ hk => ?_⟩
  have k0 : ¬ k < 0 := by
    have := hk _ (List.mem_map.mpr ⟨x0, hx0, rfl⟩)
    have := (num_nonneg _).mpr hx0'
    omega
  simp only [k0, sp_entered, sRet, sSeq, sIf, sNext, sSet, sPar, sAsg, sFor, sNever, sCont, dVar, dC, dNeg, dBin, oI, oI0, oEq, oIx, dTst, dAndT, dOrT, dNotT, dAndV, dOrV, dNotV, dIfE, dNil, dCons, dTup, dLst, dIxN, dCall, dCB, oAt, oAbs, gdName, gdNil, gdCons, gdTup, startD, tYesD, dIsi, List.map, List.length, List.replicate, Nat.sub_self, Nat.reduceSub, Nat.reduceAdd, List.reduceReplicate, List.append_nil, List.nil_append, List.cons_append, List.getElem?_cons_zero, List.getElem?_cons_succ, List.set_cons_zero, List.set_cons_succ, if_true, if_false, Bool.not_true, Bool.not_false, Bool.false_eq_true, decide_true, decide_false, true_and, and_true]
  -- behind entered
  have rest : (∀ t, 0 ≤ t → t < u → (∃ w ∈ PW a.o b.o, rateT a.o b.o w < 0 ∧ gapT a.o b.o w t = 0) → ¬ MetAt a.o b.o t) → ∀ dm : D,
      dLoop (gdTup 3 (gdCons (gdName 5) (gdCons (gdName 6) (gdCons (gdName 7) gdNil)))) (sIf (dAndT (dTst (dGe (dIxN 0 (dVar 6)) (dC (.int 0)))) (dTst (dGe (dIxN 0 (dCall sp_plus (dCons (dVar 6) (dCons (dCall sp_times (dCons (dVar 7) (dCons (dVar 2) dNil))) dNil)))) (dC (.int 0))))) (sRet (dTup (dCons (dC (.str "clear")) (dCons (dVar 5) dNil)))) sNext)
        ⟨sSeq (sFor (iLst (dCall sp_upright_ways (dCons (dVar 0) (dCons (dVar 1) dNil)))) (gdName 5) (sIf (dTst (dGe (dIxN 0 (dCall sp_gap3 (dCons (dVar 0) (dCons (dVar 1) (dCons (dVar 5) dNil))))) (dC (.int 0)))) (sRet (dTup (dCons (dC (.str "clear")) (dCons (dVar 5) dNil)))) sNext))
          (sRet (dTup (dCons (dC (.str "clear")) (dCons (dIxN 0 (dIxN 0 (dVar 3))) dNil)))) (Ret R), R, fun _ _ => False, fun _ _ => False⟩
        (rs.map dRow) [some (dB a), some (dB b), some (dQ u), some (.lst (rs.map dRow)), some dm, none, none, none, none, none] ⟨dk, none⟩ := by
    intro hm dm
    refine loop_rule (fun items ds m => ∃ (done todo : List Row) (o5 o6 o7 : Option D), rs = done ++ todo ∧ items = todo.map dRow ∧ ds = [some (dB a), some (dB b), some (dQ u), some (.lst (rs.map dRow)), some dm, o5, o6, o7, none, none] ∧ m = ⟨dk, none⟩ ∧ ∀ x ∈ done, x.2.1 < 0 ∨ rowT x u < 0) ?_ ?_ _ _ _ ⟨[], rs, _, _, _, rfl, rfl, rfl, rfl, by simp⟩
    · rintro z xs _ _ J ⟨done, todo, o5, o6, o7, e1, e2, rfl, rfl, hd⟩ hJ
      cases todo with
      | nil => cases e2
      | cons x todo =>
        cases e2
        obtain ⟨w, hw', ex⟩ := mrs x (by rw [e1]; simp)
        have go : (x.2.1 < 0 ∨ rowT x u < 0) → ∀ o5 o6 o7, J [some (dB a), some (dB b), some (dQ u), some (.lst (rs.map dRow)), some dm, o5, o6, o7, none, none] ⟨dk, none⟩ := fun q o5 o6 o7 => hJ _ _ ⟨done ++ [x], todo, o5, o6, o7, by rw [e1]; simp, rfl, rfl, rfl, fun v hv => by
          rcases List.mem_append.mp hv with k | k
          · exact hd v k
          · rw [List.mem_singleton.mp k]; exact q⟩
        have b1 : Bq 1100 x.2.1 := by rw [ex]; exact hg0 w hw'
        have b2 : Bq 1900 x.2.2 := by rw [ex]; exact hr w hw'
        simp only [sRet, sSeq, sIf, sNext, sSet, sPar, sAsg, sFor, sNever, sCont, dVar, dC, dNeg, dBin, oI, oI0, oEq, oIx, dTst, dAndT, dOrT, dNotT, dAndV, dOrV, dNotV, dIfE, dNil, dCons, dTup, dLst, dIxN, dCall, dCB, oAt, oAbs, gdName, gdNil, gdCons, gdTup, startD, tYesD, dIsi, List.map, List.length, List.replicate, Nat.sub_self, Nat.reduceSub, Nat.reduceAdd, List.reduceReplicate, List.append_nil, List.nil_append, List.cons_append, List.getElem?_cons_zero, List.getElem?_cons_succ, List.set_cons_zero, List.set_cons_succ, if_true, if_false, Bool.not_true, Bool.not_false, Bool.false_eq_true, decide_true, decide_false, true_and, and_true]
        by_cases p1 : 0 ≤ x.2.1.num
        · simp only [p1, sp_plus, sp_times, sRet, sSeq, sIf, sNext, sSet, sPar, sAsg, sFor, sNever, sCont, dVar, dC, dNeg, dBin, oI, oI0, oEq, oIx, dTst, dAndT, dOrT, dNotT, dAndV, dOrV, dNotV, dIfE, dNil, dCons, dTup, dLst, dIxN, dCall, dCB, oAt, oAbs, gdName, gdNil, gdCons, gdTup, startD, tYesD, dIsi, List.map, List.length, List.replicate, Nat.sub_self, Nat.reduceSub, Nat.reduceAdd, List.reduceReplicate, List.append_nil, List.nil_append, List.cons_append, List.getElem?_cons_zero, List.getElem?_cons_succ, List.set_cons_zero, List.set_cons_succ, if_true, if_false, Bool.not_true, Bool.not_false, Bool.false_eq_true, decide_true, decide_false, true_and, and_true]
          refine ⟨x.2.2, u, 1900, 5600, dQ u, rfl, .inl rfl, b2, hu, by decide, x.2.1, x.2.2 * u, 1100, 7500, rfl, b1, Bq_times b2 hu, by decide, ?_⟩
          by_cases p2 : 0 ≤ (x.2.1 + x.2.2 * u).num
          · simp only [p2, sRet, sSeq, sIf, sNext, sSet, sPar, sAsg, sFor, sNever, sCont, dVar, dC, dNeg, dBin, oI, oI0, oEq, oIx, dTst, dAndT, dOrT, dNotT, dAndV, dOrV, dNotV, dIfE, dNil, dCons, dTup, dLst, dIxN, dCall, dCB, oAt, oAbs, gdName, gdNil, gdCons, gdTup, startD, tYesD, dIsi, List.map, List.length, List.replicate, Nat.sub_self, Nat.reduceSub, Nat.reduceAdd, List.reduceReplicate, List.append_nil, List.nil_append, List.cons_append, List.getElem?_cons_zero, List.getElem?_cons_succ, List.set_cons_zero, List.set_cons_succ, if_true, if_false, Bool.not_true, Bool.not_false, Bool.false_eq_true, decide_true, decide_false, true_and, and_true]
            refine h (.clear x.1) ?_ ?_
            · have q1 := (num_nonneg _).mp p1
              have q2 := (num_nonneg _).mp p2
              rw [ex] at q1 q2 ⊢
              refine ⟨PW_gcd hp w ((hw w).mp hw'), q1, ?_⟩
              rw [← gap_row]
              exact q2
            · rw [ex]
              exact (hB w hw').mono (by decide)
          · simp only [p2, sRet, sSeq, sIf, sNext, sSet, sPar, sAsg, sFor, sNever, sCont, dVar, dC, dNeg, dBin, oI, oI0, oEq, oIx, dTst, dAndT, dOrT, dNotT, dAndV, dOrV, dNotV, dIfE, dNil, dCons, dTup, dLst, dIxN, dCall, dCB, oAt, oAbs, gdName, gdNil, gdCons, gdTup, startD, tYesD, dIsi, List.map, List.length, List.replicate, Nat.sub_self, Nat.reduceSub, Nat.reduceAdd, List.reduceReplicate, List.append_nil, List.nil_append, List.cons_append, List.getElem?_cons_zero, List.getElem?_cons_succ, List.set_cons_zero, List.set_cons_succ, if_true, if_false, Bool.not_true, Bool.not_false, Bool.false_eq_true, decide_true, decide_false, true_and, and_true]
            exact go (.inr (show x.2.1 + x.2.2 * u < 0 from (num_neg _).mp (by omega))) _ _ _
        · simp only [p1, sRet, sSeq, sIf, sNext, sSet, sPar, sAsg, sFor, sNever, sCont, dVar, dC, dNeg, dBin, oI, oI0, oEq, oIx, dTst, dAndT, dOrT, dNotT, dAndV, dOrV, dNotV, dIfE, dNil, dCons, dTup, dLst, dIxN, dCall, dCB, oAt, oAbs, gdName, gdNil, gdCons, gdTup, startD, tYesD, dIsi, List.map, List.length, List.replicate, Nat.sub_self, Nat.reduceSub, Nat.reduceAdd, List.reduceReplicate, List.append_nil, List.nil_append, List.cons_append, List.getElem?_cons_zero, List.getElem?_cons_succ, List.set_cons_zero, List.set_cons_succ, if_true, if_false, Bool.not_true, Bool.not_false, Bool.false_eq_true, decide_true, decide_false, true_and, and_true]
          exact go (.inl ((num_neg _).mp (by omega))) _ _ _
    · rintro _ _ ⟨done, todo, o5, o6, o7, e1, e2, rfl, rfl, hd⟩
      cases todo with
      | cons y todo => cases e2
      | nil =>
        rw [List.append_nil] at e1
        simp only [sp_upright_ways, iLst, sRet, sSeq, sIf, sNext, sSet, sPar, sAsg, sFor, sNever, sCont, dVar, dC, dNeg, dBin, oI, oI0, oEq, oIx, dTst, dAndT, dOrT, dNotT, dAndV, dOrV, dNotV, dIfE, dNil, dCons, dTup, dLst, dIxN, dCall, dCB, oAt, oAbs, gdName, gdNil, gdCons, gdTup, startD, tYesD, dIsi, List.map, List.length, List.replicate, Nat.sub_self, Nat.reduceSub, Nat.reduceAdd, List.reduceReplicate, List.append_nil, List.nil_append, List.cons_append, List.getElem?_cons_zero, List.getElem?_cons_succ, List.set_cons_zero, List.set_cons_succ, if_true, if_false, Bool.not_true, Bool.not_false, Bool.false_eq_true, decide_true, decide_false, true_and, and_true]
        refine ⟨a, b, rfl, hp, fun us hus => ?_⟩
        have husB : ∀ w ∈ us, BW 1850 w ∧ Int.gcd w.1 w.2 = 1 ∧ rateT a.o b.o w = 0 := by
          rcases hus with ⟨_, rfl⟩ | ⟨_, v, rfl, _, hg, hd, hv⟩
          · intro w q; cases q
          · intro w q
            simp only [List.mem_cons, List.not_mem_nil, or_false] at q
            rcases q with rfl | rfl
            · exact ⟨hv, hg, hd⟩
            · refine ⟨hv.neg, gcd_neg hg, ?_⟩
              unfold rateT dq neg at *
              push_cast
              grind
        refine loop_rule (fun items ds m => ∃ (done' todo' : List P2) (o5 o6 o7 : Option D), us = done' ++ todo' ∧ items = todo'.map dPr ∧ ds = [some (dB a), some (dB b), some (dQ u), some (.lst (rs.map dRow)), some dm, o5, o6, o7, none, none] ∧ m = ⟨dk, none⟩ ∧ ∀ w ∈ done', gapT a.o b.o w 0 < 0) ?_ ?_ _ _ _ ⟨[], us, _, _, _, rfl, rfl, rfl, rfl, by simp⟩
        · rintro z xs _ _ J ⟨done', todo', o5, o6, o7, e3, e4, rfl, rfl, hd'⟩ hJ
          cases todo' with
          | nil => cases e4
          | cons w todo' =>
            cases e4
            obtain ⟨q1, q2, q3⟩ := husB w (by rw [e3]; simp)
            simp only [sp_gap3, sRet, sSeq, sIf, sNext, sSet, sPar, sAsg, sFor, sNever, sCont, dVar, dC, dNeg, dBin, oI, oI0, oEq, oIx, dTst, dAndT, dOrT, dNotT, dAndV, dOrV, dNotV, dIfE, dNil, dCons, dTup, dLst, dIxN, dCall, dCB, oAt, oAbs, gdName, gdNil, gdCons, gdTup, startD, tYesD, dIsi, List.map, List.length, List.replicate, Nat.sub_self, Nat.reduceSub, Nat.reduceAdd, List.reduceReplicate, List.append_nil, List.nil_append, List.cons_append, List.getElem?_cons_zero, List.getElem?_cons_succ, List.set_cons_zero, List.set_cons_succ, if_true, if_false, Bool.not_true, Bool.not_false, Bool.false_eq_true, decide_true, decide_false, true_and, and_true]
            refine ⟨a, b, w, 1850, rfl, hp, q1, by decide, ?_⟩
            by_cases p1 : 0 ≤ (gapT a.o b.o w 0).num
            · simp only [p1, sRet, sSeq, sIf, sNext, sSet, sPar, sAsg, sFor, sNever, sCont, dVar, dC, dNeg, dBin, oI, oI0, oEq, oIx, dTst, dAndT, dOrT, dNotT, dAndV, dOrV, dNotV, dIfE, dNil, dCons, dTup, dLst, dIxN, dCall, dCB, oAt, oAbs, gdName, gdNil, gdCons, gdTup, startD, tYesD, dIsi, List.map, List.length, List.replicate, Nat.sub_self, Nat.reduceSub, Nat.reduceAdd, List.reduceReplicate, List.append_nil, List.nil_append, List.cons_append, List.getElem?_cons_zero, List.getElem?_cons_succ, List.set_cons_zero, List.set_cons_succ, if_true, if_false, Bool.not_true, Bool.not_false, Bool.false_eq_true, decide_true, decide_false, true_and, and_true]
              have k1 := (num_nonneg _).mp p1
              refine h (.clear w) ⟨q2, k1, ?_⟩ q1
              have e : gapT a.o b.o w u = gapT a.o b.o w 0 := by
                unfold gapT
                rw [q3]
                grind
              rw [e]
              exact k1
            · simp only [p1, sRet, sSeq, sIf, sNext, sSet, sPar, sAsg, sFor, sNever, sCont, dVar, dC, dNeg, dBin, oI, oI0, oEq, oIx, dTst, dAndT, dOrT, dNotT, dAndV, dOrV, dNotV, dIfE, dNil, dCons, dTup, dLst, dIxN, dCall, dCB, oAt, oAbs, gdName, gdNil, gdCons, gdTup, startD, tYesD, dIsi, List.map, List.length, List.replicate, Nat.sub_self, Nat.reduceSub, Nat.reduceAdd, List.reduceReplicate, List.append_nil, List.nil_append, List.cons_append, List.getElem?_cons_zero, List.getElem?_cons_succ, List.set_cons_zero, List.set_cons_succ, if_true, if_false, Bool.not_true, Bool.not_false, Bool.false_eq_true, decide_true, decide_false, true_and, and_true]
              refine hJ _ _ ⟨done' ++ [w], todo', _, _, _, by rw [e3]; simp, rfl, rfl, rfl, fun v hv => ?_⟩
              rcases List.mem_append.mp hv with k | k
              · exact hd' v k
              · rw [List.mem_singleton.mp k]; exact (num_neg _).mp (by omega)
        · rintro _ _ ⟨done', todo', o5, o6, o7, e3, e4, rfl, rfl, hd'⟩
          cases todo' with
          | cons y todo' => cases e4
          | nil =>
            rw [List.append_nil] at e3
            subst e3
            refine (M4 hp u0 hov hus hm (fun w hw' => ?_) hd').elim
            have := hd _ (by rw [← e1]; exact mrs' w ((hw w).mpr hw'))
            rw [gap_row] at this
            exact this
  refine ⟨rs, rfl, fun x hx => ?_, fun ⟨x, hx, hs⟩ => ?_, fun t w ht t0 hx hmr => ?_, fun hno => ?_⟩
  · obtain ⟨w, q, rfl⟩ := mrs x hx
    exact ⟨hg0 w q, hr w q⟩
  · obtain ⟨w, q, rfl⟩ := mrs x hx
    obtain ⟨v, hv, hv'⟩ := growM hp ⟨w, (hw w).mp q, hs⟩
    exact ⟨_, mrs' v ((hw v).mpr hv), hv'⟩
  · obtain ⟨x, hx, ew, hs, hz⟩ := hx
    obtain ⟨w', q, rfl⟩ := mrs x hx
    cases ew
    rw [gap_row] at hz
    simp only [oIsN, sp_order, sRet, sSeq, sIf, sNext, sSet, sPar, sAsg, sFor, sNever, sCont, dVar, dC, dNeg, dBin, oI, oI0, oEq, oIx, dTst, dAndT, dOrT, dNotT, dAndV, dOrV, dNotV, dIfE, dNil, dCons, dTup, dLst, dIxN, dCall, dCB, oAt, oAbs, gdName, gdNil, gdCons, gdTup, startD, tYesD, dIsi, List.map, List.length, List.replicate, Nat.sub_self, Nat.reduceSub, Nat.reduceAdd, List.reduceReplicate, List.append_nil, List.nil_append, List.cons_append, List.getElem?_cons_zero, List.getElem?_cons_succ, List.set_cons_zero, List.set_cons_succ, if_true, if_false, Bool.not_true, Bool.not_false, Bool.false_eq_true, decide_true, decide_false, true_and, and_true]
    refine ⟨t, u, 3000, 5600, rfl, ht, hu, by decide, fun k k1 k2 => ?_⟩
    by_cases kn : k < 0
    · simp only [kn, sRet, sSeq, sIf, sNext, sSet, sPar, sAsg, sFor, sNever, sCont, dVar, dC, dNeg, dBin, oI, oI0, oEq, oIx, dTst, dAndT, dOrT, dNotT, dAndV, dOrV, dNotV, dIfE, dNil, dCons, dTup, dLst, dIxN, dCall, dCB, oAt, oAbs, gdName, gdNil, gdCons, gdTup, startD, tYesD, dIsi, List.map, List.length, List.replicate, Nat.sub_self, Nat.reduceSub, Nat.reduceAdd, List.reduceReplicate, List.append_nil, List.nil_append, List.cons_append, List.getElem?_cons_zero, List.getElem?_cons_succ, List.set_cons_zero, List.set_cons_succ, if_true, if_false, Bool.not_true, Bool.not_false, Bool.false_eq_true, decide_true, decide_false, true_and, and_true]
      exact h (.meets t w') ⟨t0, k1.mp kn, PW_gcd hp w' ((hw w').mp q), (hw w').mp q, hz, hs, (met_iff t).mp hmr⟩ ⟨ht.mono (by decide), hB w' q⟩
    · simp only [kn, sRet, sSeq, sIf, sNext, sSet, sPar, sAsg, sFor, sNever, sCont, dVar, dC, dNeg, dBin, oI, oI0, oEq, oIx, dTst, dAndT, dOrT, dNotT, dAndV, dOrV, dNotV, dIfE, dNil, dCons, dTup, dLst, dIxN, dCall, dCB, oAt, oAbs, gdName, gdNil, gdCons, gdTup, startD, tYesD, dIsi, List.map, List.length, List.replicate, Nat.sub_self, Nat.reduceSub, Nat.reduceAdd, List.reduceReplicate, List.append_nil, List.nil_append, List.cons_append, List.getElem?_cons_zero, List.getElem?_cons_succ, List.set_cons_zero, List.set_cons_succ, if_true, if_false, Bool.not_true, Bool.not_false, Bool.false_eq_true, decide_true, decide_false, true_and, and_true]
      refine rest (fun t' ht0 ht1 ⟨v, hv, hv1, hv2⟩ hma => ?_) _
      have := hma w' ((hw w').mp q)
      have g1 := row_sink_ge (x := (w', gapT a.o b.o w' 0, rateT a.o b.o w')) (t1 := t) (t := t') hs (by rw [gap_row]; exact hz) (by rw [gap_row]; grind)
      exact kn (k1.mpr (by grind))
  · simp only [oIsN, sRet, sSeq, sIf, sNext, sSet, sPar, sAsg, sFor, sNever, sCont, dVar, dC, dNeg, dBin, oI, oI0, oEq, oIx, dTst, dAndT, dOrT, dNotT, dAndV, dOrV, dNotV, dIfE, dNil, dCons, dTup, dLst, dIxN, dCall, dCB, oAt, oAbs, gdName, gdNil, gdCons, gdTup, startD, tYesD, dIsi, List.map, List.length, List.replicate, Nat.sub_self, Nat.reduceSub, Nat.reduceAdd, List.reduceReplicate, List.append_nil, List.nil_append, List.cons_append, List.getElem?_cons_zero, List.getElem?_cons_succ, List.set_cons_zero, List.set_cons_succ, if_true, if_false, Bool.not_true, Bool.not_false, Bool.false_eq_true, decide_true, decide_false, true_and, and_true]
    refine rest (fun t' ht0 ht1 ⟨v, hv, hv1, hv2⟩ hma => ?_) _
    exact hno t' ht0 ⟨_, mrs' v ((hw v).mpr hv), hv1, by rw [gap_row]; exact hv2⟩ ((met_iff t').mpr hma)
end K23
/-! the readings keep the promises: what is drawn -/
namespace K23
open PySem PySem.Spec PyProof.Rows L2
theorem B_zero (n : Nat) : B n 0 := by unfold B; exact Nat.pow_pos (by decide)
theorem B_step {j : Nat} {f r : Int} (h0 : 0 ≤ f) (h : B (10 * j) f) (r0 : 0 ≤ r) (r1 : r < 1000) : B (10 * (j + 1)) (f * 1000 + r) := by
  unfold B at *
  have e : (2 : Nat) ^ (10 * (j + 1)) = 2 ^ (10 * j) * 1024 := by rw [Nat.mul_add, Nat.pow_add]
  rw [e]
  omega
theorem rd_longL : Rd 2 4 sp_longL t_longL := by
  rintro _ ⟨dk, ow⟩ R - ho ⟨a, many, rfl, hm, d, rfl, rfl, hb, h⟩
  cases ho
  simp only [t_longL, iRng, sRet, sSeq, sIf, sNext, sSet, sPar, sAsg, sFor, sNever, sCont, dVar, dC, dNeg, dBin, oI, oI0, oEq, oIx, dTst, dAndT, dOrT, dNotT, dAndV, dOrV, dNotV, dIfE, dNil, dCons, dTup, dLst, dIxN, dCall, dCB, oAt, oAbs, gdName, gdNil, gdCons, gdTup, startD, tYesD, dIsi, List.map, List.length, List.replicate, Nat.sub_self, Nat.reduceSub, Nat.reduceAdd, List.reduceReplicate, List.append_nil, List.nil_append, List.cons_append, List.getElem?_cons_zero, List.getElem?_cons_succ, List.set_cons_zero, List.set_cons_succ, if_true, if_false, Bool.not_true, Bool.not_false, Bool.false_eq_true, decide_true, decide_false, true_and, and_true]
  refine ⟨⟨by omega, by omega⟩, ?_⟩
  refine loop_rule (fun items ds m => items.length ≤ many ∧ ∃ (f : Int) (n' : Nat) (o3 : Option D), ds = [some (.ref d.a), some (.int many), some (.int f), o3] ∧ 0 ≤ f ∧ B (10 * (many - items.length)) f ∧ n' ≤ d.n + (many - items.length) ∧ m = ⟨some { d with n := n' }, none⟩) ?_ ?_ _ _ _ ⟨by simp [intsTo], 0, d.n, _, rfl, by decide, B_zero _, by omega, rfl⟩
  · rintro x xs _ _ J ⟨hl, f, n', o3, rfl, f0, fB, hn, rfl⟩ hJ
    have hl' : xs.length + 1 ≤ many := hl
    have e : many - xs.length = (many - (x :: xs).length) + 1 := by simp; omega
    simp only [sp_takeL, sRet, sSeq, sIf, sNext, sSet, sPar, sAsg, sFor, sNever, sCont, dVar, dC, dNeg, dBin, oI, oI0, oEq, oIx, dTst, dAndT, dOrT, dNotT, dAndV, dOrV, dNotV, dIfE, dNil, dCons, dTup, dLst, dIxN, dCall, dCB, oAt, oAbs, gdName, gdNil, gdCons, gdTup, startD, tYesD, dIsi, List.map, List.length, List.replicate, Nat.sub_self, Nat.reduceSub, Nat.reduceAdd, List.reduceReplicate, List.append_nil, List.nil_append, List.cons_append, List.getElem?_cons_zero, List.getElem?_cons_succ, List.set_cons_zero, List.set_cons_succ, if_true, if_false, Bool.not_true, Bool.not_false, Bool.false_eq_true, decide_true, decide_false, true_and, and_true]
    refine ⟨mulW (fB.mono (m := 200) (by omega)) (B.le (n := 10) (by decide) (by decide)) (by decide), d.a, 1000, rfl, by decide, by decide, { d with n := n' }, rfl, rfl, by simp at hn ⊢; omega, fun n2 hn2 r r0 r1 => ?_⟩
    refine hJ _ _ ⟨by omega, _, n2, _, rfl, by omega, ?_, by simp at hn hn2; omega, rfl⟩
    rw [e]
    exact B_step f0 fB r0 r1
  · rintro _ _ ⟨hl, f, n', o3, rfl, f0, fB, hn, rfl⟩
    simp only [sRet, sSeq, sIf, sNext, sSet, sPar, sAsg, sFor, sNever, sCont, dVar, dC, dNeg, dBin, oI, oI0, oEq, oIx, dTst, dAndT, dOrT, dNotT, dAndV, dOrV, dNotV, dIfE, dNil, dCons, dTup, dLst, dIxN, dCall, dCB, oAt, oAbs, gdName, gdNil, gdCons, gdTup, startD, tYesD, dIsi, List.map, List.length, List.replicate, Nat.sub_self, Nat.reduceSub, Nat.reduceAdd, List.reduceReplicate, List.append_nil, List.nil_append, List.cons_append, List.getElem?_cons_zero, List.getElem?_cons_succ, List.set_cons_zero, List.set_cons_succ, if_true, if_false, Bool.not_true, Bool.not_false, Bool.false_eq_true, decide_true, decide_false, true_and, and_true]
    exact h n' (by simp at hn; omega) f f0 (by simpa using fB)
theorem rd_numberL : Rd 2 2 sp_numberL t_numberL := by
  rintro _ ⟨dk, ow⟩ R - ho ⟨a, sp, rfl, h0, h1, d, rfl, rfl, hb, h⟩
  cases ho
  simp only [t_numberL, sp_takeL, sp_longL, sRet, sSeq, sIf, sNext, sSet, sPar, sAsg, sFor, sNever, sCont, dVar, dC, dNeg, dBin, oI, oI0, oEq, oIx, dTst, dAndT, dOrT, dNotT, dAndV, dOrV, dNotV, dIfE, dNil, dCons, dTup, dLst, dIxN, dCall, dCB, oAt, oAbs, gdName, gdNil, gdCons, gdTup, startD, tYesD, dIsi, List.map, List.length, List.replicate, Nat.sub_self, Nat.reduceSub, Nat.reduceAdd, List.reduceReplicate, List.append_nil, List.nil_append, List.cons_append, List.getElem?_cons_zero, List.getElem?_cons_succ, List.set_cons_zero, List.set_cons_succ, if_true, if_false, Bool.not_true, Bool.not_false, Bool.false_eq_true, decide_true, decide_false, true_and, and_true]
  have b2 : B 2 2 := by unfold B; decide
  have bs : B 21 sp := B.le (by have := h0; omega) (by have := h1; omega)
  by_cases q : sp < 1000
  · simp only [q, sRet, sSeq, sIf, sNext, sSet, sPar, sAsg, sFor, sNever, sCont, dVar, dC, dNeg, dBin, oI, oI0, oEq, oIx, dTst, dAndT, dOrT, dNotT, dAndV, dOrV, dNotV, dIfE, dNil, dCons, dTup, dLst, dIxN, dCall, dCB, oAt, oAbs, gdName, gdNil, gdCons, gdTup, startD, tYesD, dIsi, List.map, List.length, List.replicate, Nat.sub_self, Nat.reduceSub, Nat.reduceAdd, List.reduceReplicate, List.append_nil, List.nil_append, List.cons_append, List.getElem?_cons_zero, List.getElem?_cons_succ, List.set_cons_zero, List.set_cons_succ, if_true, if_false, Bool.not_true, Bool.not_false, Bool.false_eq_true, decide_true, decide_false, true_and, and_true]
    exact ⟨mulW b2 bs (by decide), d.a, 2 * sp + 1, rfl, by omega, by omega, d, rfl, rfl, by omega, fun n' hn r r0 r1 => h n' (by omega) _ (by omega) (by omega)⟩
  · simp only [q, sRet, sSeq, sIf, sNext, sSet, sPar, sAsg, sFor, sNever, sCont, dVar, dC, dNeg, dBin, oI, oI0, oEq, oIx, dTst, dAndT, dOrT, dNotT, dAndV, dOrV, dNotV, dIfE, dNil, dCons, dTup, dLst, dIxN, dCall, dCB, oAt, oAbs, gdName, gdNil, gdCons, gdTup, startD, tYesD, dIsi, List.map, List.length, List.replicate, Nat.sub_self, Nat.reduceSub, Nat.reduceAdd, List.reduceReplicate, List.append_nil, List.nil_append, List.cons_append, List.getElem?_cons_zero, List.getElem?_cons_succ, List.set_cons_zero, List.set_cons_succ, if_true, if_false, Bool.not_true, Bool.not_false, Bool.false_eq_true, decide_true, decide_false, true_and, and_true]
    refine ⟨d.a, 3, rfl, by decide, d, rfl, rfl, hb, fun n' hn r r0 rB => ⟨mulW b2 bs (by decide), by omega, h n' hn _ ?_ ?_⟩⟩
    · have := Int.emod_nonneg r (show 2 * sp + 1 ≠ 0 by omega)
      omega
    · have := Int.emod_lt_of_pos r (show 0 < 2 * sp + 1 by omega)
      omega
theorem rd_drawnL : Rd 2 4 sp_drawnL t_drawnL := by
  rintro _ ⟨dk, ow⟩ R - ho ⟨a, z, rfl, h0, h1, d, rfl, rfl, hb, h⟩
  cases ho
  simp only [t_drawnL, sp_takeL, sp_longL, sp_shareL, sRet, sSeq, sIf, sNext, sSet, sPar, sAsg, sFor, sNever, sCont, dVar, dC, dNeg, dBin, oI, oI0, oEq, oIx, dTst, dAndT, dOrT, dNotT, dAndV, dOrV, dNotV, dIfE, dNil, dCons, dTup, dLst, dIxN, dCall, dCB, oAt, oAbs, gdName, gdNil, gdCons, gdTup, startD, tYesD, dIsi, List.map, List.length, List.replicate, Nat.sub_self, Nat.reduceSub, Nat.reduceAdd, List.reduceReplicate, List.append_nil, List.nil_append, List.cons_append, List.getElem?_cons_zero, List.getElem?_cons_succ, List.set_cons_zero, List.set_cons_succ, if_true, if_false, Bool.not_true, Bool.not_false, Bool.false_eq_true, decide_true, decide_false, true_and, and_true]
  have hz : z = 0 ∨ z = 1 ∨ z = 2 := by omega
  have big : ∀ k : Nat, 0 < k → k ≤ 20 → (∃ a many, [D.ref d.a, D.int 2] = [.ref a, .int many] ∧ 0 < many ∧ many < 2 ^ 30 ∧ Dr ⟨some d, none⟩ a 1 fun m' => ∀ r : Int, 0 ≤ r → r < many → CMulW 2 r ∧ ∃ (a : Addr) (many : Nat), [D.ref d.a, .int (k : Int)] = [.ref a, .int (many : Int)] ∧ many ≤ 20 ∧ Dr ⟨m'.dk, none⟩ a 20 fun m'' => ∀ s : Int, 0 ≤ s → B (10 * many) s → CMulW (1 - 2 * r) s ∧
      ∃ (a : Addr) (many : Int), [D.ref d.a, .int (k : Int)] = [.ref a, .int many] ∧ 0 < many ∧ many < 2 ^ 30 ∧ Dr ⟨m''.dk, none⟩ a 1 fun m3 => ∀ v : Int, 0 ≤ v → v < many → ∃ (a : Addr) (many : Nat), [D.ref d.a, .int v] = [.ref a, .int (many : Int)] ∧ many ≤ 20 ∧ Dr ⟨m3.dk, none⟩ a 20 fun m4 => ∀ y : Int, 0 ≤ y → B (10 * many) y → ∃ t b, [D.int ((1 - 2 * r) * s), D.int (1 + y)] = [.int t, .int b] ∧ 0 < b ∧ B 8990 b ∧ R (dQ (Rat.divInt t b)) ⟨m4.dk, none⟩) := by
    intro k hk hk2
    refine ⟨_, _, rfl, by decide, by decide, d, rfl, rfl, by omega, fun n1 hn1 r r0 r1 => ⟨mulW (n := 2) (k := 2) (by unfold B; decide) (B.le (by omega) (by omega)) (by decide), _, k, rfl, hk2, _, rfl, rfl, by simp; omega, fun n2 hn2 s s0 sB => ⟨mulW (n := 2) (B.le (by omega) (by omega)) sB (by omega), _, _, rfl, by omega, by omega, _, rfl, rfl, by simp at hn2 ⊢; omega, fun n3 hn3 v v0 v1 => ?_⟩⟩⟩
    obtain ⟨v, rfl⟩ := Int.eq_ofNat_of_zero_le v0
    refine ⟨_, v, rfl, by omega, _, rfl, rfl, by simp at hn2 hn3 ⊢; omega, fun n4 hn4 y y0 yB => ?_⟩
    have sB2 : B 200 s := B.mono (n := 10 * k) sB (by omega)
    have sB' : B 200 ((1 - 2 * r) * s) := by
      have hr : r = 0 ∨ r = 1 := by omega
      rcases hr with rfl | rfl
      · rw [show (1 - 2 * 0) * s = s by omega]
        exact sB2
      · rw [show (1 - 2 * 1) * s = -s by omega]
        exact sB2.neg
    have yB' : B 200 (1 + y) := by
      have := (B.add (n := 1) (m := 190) (i := 1) (by unfold B; decide) (B.mono (n := 10 * v) (m := 190) yB (by omega)))
      exact this.mono (by decide)
    exact ⟨_, _, rfl, by omega, yB'.mono (by decide), h n4 (by simp at hn2 hn3 hn4; omega) _ (Bq_cut sB' yB' (by omega))⟩
  rcases hz with rfl | rfl | rfl
  · have e : atI [D.int 0, D.int 2, D.int 20] 0 = some (.int 0) := rfl
    simp only [e, sRet, sSeq, sIf, sNext, sSet, sPar, sAsg, sFor, sNever, sCont, dVar, dC, dNeg, dBin, oI, oI0, oEq, oIx, dTst, dAndT, dOrT, dNotT, dAndV, dOrV, dNotV, dIfE, dNil, dCons, dTup, dLst, dIxN, dCall, dCB, oAt, oAbs, gdName, gdNil, gdCons, gdTup, startD, tYesD, dIsi, List.map, List.length, List.replicate, Nat.sub_self, Nat.reduceSub, Nat.reduceAdd, List.reduceReplicate, List.append_nil, List.nil_append, List.cons_append, List.getElem?_cons_zero, List.getElem?_cons_succ, List.set_cons_zero, List.set_cons_succ, if_true, if_false, Bool.not_true, Bool.not_false, Bool.false_eq_true, decide_true, decide_false, true_and, and_true]
    refine ⟨_, _, rfl, by decide, by decide, d, rfl, rfl, by omega, fun n1 hn1 r r0 r1 => ⟨_, _, rfl, by decide, by decide, _, rfl, rfl, by simp; omega, fun n2 hn2 s s0 s1 => ⟨_, _, rfl, by decide, by decide, _, rfl, rfl, by simp at hn2 ⊢; omega, fun n3 hn3 v v0 v1 => ?_⟩⟩⟩
    have m1 : 0 ≤ s * v := Int.mul_nonneg s0 v0
    have m2 : B 5 (s * v) := B.mul (n := 3) (m := 2) (B.le (by omega) (by omega)) (B.le (by omega) (by omega))
    have m3 : B 6 (1 + s * v) := B.add (n := 1) (m := 5) (by unfold B; decide) m2
    refine ⟨mulW (n := 3) (k := 2) (B.le (by omega) (by omega)) (B.le (by omega) (by omega)) (by decide), _, _, rfl, by omega, m3.mono (by decide), h n3 (by simp at hn2 hn3; omega) _ ((Bq_cut (n := 6) (B.le (by omega) (by omega)) m3 (by omega)).mono (by decide))⟩
  · have e : atI [D.int 0, D.int 2, D.int 20] 1 = some (.int 2) := rfl
    have e2 : ¬ ((2 : Int) = 0) := by decide
    simp only [e, e2, sRet, sSeq, sIf, sNext, sSet, sPar, sAsg, sFor, sNever, sCont, dVar, dC, dNeg, dBin, oI, oI0, oEq, oIx, dTst, dAndT, dOrT, dNotT, dAndV, dOrV, dNotV, dIfE, dNil, dCons, dTup, dLst, dIxN, dCall, dCB, oAt, oAbs, gdName, gdNil, gdCons, gdTup, startD, tYesD, dIsi, List.map, List.length, List.replicate, Nat.sub_self, Nat.reduceSub, Nat.reduceAdd, List.reduceReplicate, List.append_nil, List.nil_append, List.cons_append, List.getElem?_cons_zero, List.getElem?_cons_succ, List.set_cons_zero, List.set_cons_succ, if_true, if_false, Bool.not_true, Bool.not_false, Bool.false_eq_true, decide_true, decide_false, true_and, and_true]
    exact big 2 (by decide) (by decide)
  · have e : atI [D.int 0, D.int 2, D.int 20] 2 = some (.int 20) := rfl
    have e2 : ¬ ((20 : Int) = 0) := by decide
    simp only [e, e2, sRet, sSeq, sIf, sNext, sSet, sPar, sAsg, sFor, sNever, sCont, dVar, dC, dNeg, dBin, oI, oI0, oEq, oIx, dTst, dAndT, dOrT, dNotT, dAndV, dOrV, dNotV, dIfE, dNil, dCons, dTup, dLst, dIxN, dCall, dCB, oAt, oAbs, gdName, gdNil, gdCons, gdTup, startD, tYesD, dIsi, List.map, List.length, List.replicate, Nat.sub_self, Nat.reduceSub, Nat.reduceAdd, List.reduceReplicate, List.append_nil, List.nil_append, List.cons_append, List.getElem?_cons_zero, List.getElem?_cons_succ, List.set_cons_zero, List.set_cons_succ, if_true, if_false, Bool.not_true, Bool.not_false, Bool.false_eq_true, decide_true, decide_false, true_and, and_true]
    exact big 20 (by decide) (by decide)
theorem rd_untilL : Rd 2 4 sp_untilL t_untilL := by
  rintro _ ⟨dk, ow⟩ R - ho ⟨a, wh, rfl, w0, wB, d, rfl, rfl, hb, h⟩
  cases ho
  simp only [t_untilL, sp_takeL, sp_shareL, sRet, sSeq, sIf, sNext, sSet, sPar, sAsg, sFor, sNever, sCont, dVar, dC, dNeg, dBin, oI, oI0, oEq, oIx, dTst, dAndT, dOrT, dNotT, dAndV, dOrV, dNotV, dIfE, dNil, dCons, dTup, dLst, dIxN, dCall, dCB, oAt, oAbs, gdName, gdNil, gdCons, gdTup, startD, tYesD, dIsi, List.map, List.length, List.replicate, Nat.sub_self, Nat.reduceSub, Nat.reduceAdd, List.reduceReplicate, List.append_nil, List.nil_append, List.cons_append, List.getElem?_cons_zero, List.getElem?_cons_succ, List.set_cons_zero, List.set_cons_succ, if_true, if_false, Bool.not_true, Bool.not_false, Bool.false_eq_true, decide_true, decide_false, true_and, and_true]
  refine ⟨_, _, rfl, by decide, by decide, d, rfl, rfl, by omega, fun n1 hn1 r r0 r1 => ⟨_, _, rfl, by decide, by decide, _, rfl, rfl, by simp; omega, fun n2 hn2 s s0 s1 => ?_⟩⟩
  have bs : B 8 (1 + s) := B.le (by omega) (by omega)
  have wn := (num_pos _).mpr w0
  have wd := den_pos wh
  have m1 := wB.1.mul bs
  have m2 := wB.den.mul bs
  have m3 : 0 < (wh.den : Int) * (1 + s) := Int.mul_pos wd (by omega)
  have last : (∃ (a : Addr) (many : Int), [D.ref d.a, D.int 40] = [.ref a, .int many] ∧ 0 < many ∧ many < 2 ^ 30 ∧ Dr ⟨some { d with n := n2 }, none⟩ a 1 fun m' => ∀ x : Int, 0 ≤ x → x < many → ∃ (a : Addr) (many : Int), [D.ref d.a, D.int 7] = [.ref a, .int many] ∧ 0 < many ∧ many < 2 ^ 30 ∧ Dr ⟨m'.dk, none⟩ a 1 fun m'' => ∀ y : Int, 0 ≤ y → y < many → ∃ t b, [D.int x, D.int (1 + y)] = [.int t, .int b] ∧ 0 < b ∧ B 8990 b ∧ R (dQ (Rat.divInt t b)) ⟨m''.dk, none⟩) := by
    refine ⟨_, _, rfl, by decide, by decide, _, rfl, rfl, by simp at hn2 ⊢; omega, fun n3 hn3 x x0 x1 => ⟨_, _, rfl, by decide, by decide, _, rfl, rfl, by simp at hn2 hn3 ⊢; omega, fun n4 hn4 y y0 y1 => ?_⟩⟩
    have b1 : B 6 x := B.le (by omega) (by omega)
    have b2 : B 6 (1 + y) := B.le (by omega) (by omega)
    refine ⟨_, _, rfl, by omega, b2.mono (by decide), h n4 (by simp at hn2 hn3 hn4; omega) _ ?_ ((Bq_cut b1 b2 (by omega)).mono (by decide))⟩
    rw [← num_nonneg, (divInt_cut (by omega)).1]
    exact Int.ediv_nonneg x0 (by omega)
  have dk2 : n2 ≤ d.n + 10 := by simp at hn2; omega
  have pos : ∀ t b : Int, 0 ≤ t → 0 < b → 0 ≤ Rat.divInt t b := fun t b ht hb => by
    rw [← num_nonneg, (divInt_cut hb).1]
    exact Int.ediv_nonneg ht (by omega)
  have step : ∀ t : Int, B 12 t → 0 ≤ t → (∃ t' b, [D.int t, D.int ((wh.den : Int) * (1 + s))] = [.int t', .int b] ∧ 0 < b ∧ B 8990 b ∧ R (dQ (Rat.divInt t' b)) ⟨some { d with n := n2 }, none⟩) := fun t tB t0 =>
    ⟨_, _, rfl, m3, m2.mono (by decide), h n2 dk2 _ (pos _ _ t0 m3) ((Bq_cut (n := 12) tB (m2.mono (by decide)) (by omega)).mono (by decide))⟩
  have ms : 0 < wh.num * (1 + s) := Int.mul_pos wn (by omega)
  by_cases q0 : r = 0
  · simp only [q0, sRet, sSeq, sIf, sNext, sSet, sPar, sAsg, sFor, sNever, sCont, dVar, dC, dNeg, dBin, oI, oI0, oEq, oIx, dTst, dAndT, dOrT, dNotT, dAndV, dOrV, dNotV, dIfE, dNil, dCons, dTup, dLst, dIxN, dCall, dCB, oAt, oAbs, gdName, gdNil, gdCons, gdTup, startD, tYesD, dIsi, List.map, List.length, List.replicate, Nat.sub_self, Nat.reduceSub, Nat.reduceAdd, List.reduceReplicate, List.append_nil, List.nil_append, List.cons_append, List.getElem?_cons_zero, List.getElem?_cons_succ, List.set_cons_zero, List.set_cons_succ, if_true, if_false, Bool.not_true, Bool.not_false, Bool.false_eq_true, decide_true, decide_false, true_and, and_true]
    exact h n2 dk2 0 (by decide) (by unfold Bq B; decide)
  · simp only [q0, sRet, sSeq, sIf, sNext, sSet, sPar, sAsg, sFor, sNever, sCont, dVar, dC, dNeg, dBin, oI, oI0, oEq, oIx, dTst, dAndT, dOrT, dNotT, dAndV, dOrV, dNotV, dIfE, dNil, dCons, dTup, dLst, dIxN, dCall, dCB, oAt, oAbs, gdName, gdNil, gdCons, gdTup, startD, tYesD, dIsi, List.map, List.length, List.replicate, Nat.sub_self, Nat.reduceSub, Nat.reduceAdd, List.reduceReplicate, List.append_nil, List.nil_append, List.cons_append, List.getElem?_cons_zero, List.getElem?_cons_succ, List.set_cons_zero, List.set_cons_succ, if_true, if_false, Bool.not_true, Bool.not_false, Bool.false_eq_true, decide_true, decide_false, true_and, and_true]
    by_cases q1 : r < 3
    · simp only [q1, sRet, sSeq, sIf, sNext, sSet, sPar, sAsg, sFor, sNever, sCont, dVar, dC, dNeg, dBin, oI, oI0, oEq, oIx, dTst, dAndT, dOrT, dNotT, dAndV, dOrV, dNotV, dIfE, dNil, dCons, dTup, dLst, dIxN, dCall, dCB, oAt, oAbs, gdName, gdNil, gdCons, gdTup, startD, tYesD, dIsi, List.map, List.length, List.replicate, Nat.sub_self, Nat.reduceSub, Nat.reduceAdd, List.reduceReplicate, List.append_nil, List.nil_append, List.cons_append, List.getElem?_cons_zero, List.getElem?_cons_succ, List.set_cons_zero, List.set_cons_succ, if_true, if_false, Bool.not_true, Bool.not_false, Bool.false_eq_true, decide_true, decide_false, true_and, and_true]
      exact h n2 dk2 wh (Rat.le_of_lt w0) (wB.mono (by decide))
    · simp only [q1, sRet, sSeq, sIf, sNext, sSet, sPar, sAsg, sFor, sNever, sCont, dVar, dC, dNeg, dBin, oI, oI0, oEq, oIx, dTst, dAndT, dOrT, dNotT, dAndV, dOrV, dNotV, dIfE, dNil, dCons, dTup, dLst, dIxN, dCall, dCB, oAt, oAbs, gdName, gdNil, gdCons, gdTup, startD, tYesD, dIsi, List.map, List.length, List.replicate, Nat.sub_self, Nat.reduceSub, Nat.reduceAdd, List.reduceReplicate, List.append_nil, List.nil_append, List.cons_append, List.getElem?_cons_zero, List.getElem?_cons_succ, List.set_cons_zero, List.set_cons_succ, if_true, if_false, Bool.not_true, Bool.not_false, Bool.false_eq_true, decide_true, decide_false, true_and, and_true]
      by_cases q2 : r = 3
      · subst q2
        simp only [sRet, sSeq, sIf, sNext, sSet, sPar, sAsg, sFor, sNever, sCont, dVar, dC, dNeg, dBin, oI, oI0, oEq, oIx, dTst, dAndT, dOrT, dNotT, dAndV, dOrV, dNotV, dIfE, dNil, dCons, dTup, dLst, dIxN, dCall, dCB, oAt, oAbs, gdName, gdNil, gdCons, gdTup, startD, tYesD, dIsi, List.map, List.length, List.replicate, Nat.sub_self, Nat.reduceSub, Nat.reduceAdd, List.reduceReplicate, List.append_nil, List.nil_append, List.cons_append, List.getElem?_cons_zero, List.getElem?_cons_succ, List.set_cons_zero, List.set_cons_succ, if_true, if_false, Bool.not_true, Bool.not_false, Bool.false_eq_true, decide_true, decide_false, true_and, and_true]
        exact ⟨mulW wB.1 bs (by decide), mulW wB.den bs (by decide), step _ ((m1.add (wB.den.mono (m := 11) (by decide))).mono (by decide)) (by omega)⟩
      · simp only [q2, sRet, sSeq, sIf, sNext, sSet, sPar, sAsg, sFor, sNever, sCont, dVar, dC, dNeg, dBin, oI, oI0, oEq, oIx, dTst, dAndT, dOrT, dNotT, dAndV, dOrV, dNotV, dIfE, dNil, dCons, dTup, dLst, dIxN, dCall, dCB, oAt, oAbs, gdName, gdNil, gdCons, gdTup, startD, tYesD, dIsi, List.map, List.length, List.replicate, Nat.sub_self, Nat.reduceSub, Nat.reduceAdd, List.reduceReplicate, List.append_nil, List.nil_append, List.cons_append, List.getElem?_cons_zero, List.getElem?_cons_succ, List.set_cons_zero, List.set_cons_succ, if_true, if_false, Bool.not_true, Bool.not_false, Bool.false_eq_true, decide_true, decide_false, true_and, and_true]
        by_cases q3 : r = 4
        · subst q3
          simp only [sRet, sSeq, sIf, sNext, sSet, sPar, sAsg, sFor, sNever, sCont, dVar, dC, dNeg, dBin, oI, oI0, oEq, oIx, dTst, dAndT, dOrT, dNotT, dAndV, dOrV, dNotV, dIfE, dNil, dCons, dTup, dLst, dIxN, dCall, dCB, oAt, oAbs, gdName, gdNil, gdCons, gdTup, startD, tYesD, dIsi, List.map, List.length, List.replicate, Nat.sub_self, Nat.reduceSub, Nat.reduceAdd, List.reduceReplicate, List.append_nil, List.nil_append, List.cons_append, List.getElem?_cons_zero, List.getElem?_cons_succ, List.set_cons_zero, List.set_cons_succ, if_true, if_false, Bool.not_true, Bool.not_false, Bool.false_eq_true, decide_true, decide_false, true_and, and_true]
          refine ⟨mulW wB.1 bs (by decide), ?_⟩
          by_cases q4 : (wh.den : Int) < wh.num * (1 + s)
          · simp only [q4, sRet, sSeq, sIf, sNext, sSet, sPar, sAsg, sFor, sNever, sCont, dVar, dC, dNeg, dBin, oI, oI0, oEq, oIx, dTst, dAndT, dOrT, dNotT, dAndV, dOrV, dNotV, dIfE, dNil, dCons, dTup, dLst, dIxN, dCall, dCB, oAt, oAbs, gdName, gdNil, gdCons, gdTup, startD, tYesD, dIsi, List.map, List.length, List.replicate, Nat.sub_self, Nat.reduceSub, Nat.reduceAdd, List.reduceReplicate, List.append_nil, List.nil_append, List.cons_append, List.getElem?_cons_zero, List.getElem?_cons_succ, List.set_cons_zero, List.set_cons_succ, if_true, if_false, Bool.not_true, Bool.not_false, Bool.false_eq_true, decide_true, decide_false, true_and, and_true]
            exact ⟨mulW wB.1 bs (by decide), mulW wB.den bs (by decide), step _ ((m1.sub (wB.den.mono (m := 11) (by decide))).mono (by decide)) (by omega)⟩
          · simp only [q4, sRet, sSeq, sIf, sNext, sSet, sPar, sAsg, sFor, sNever, sCont, dVar, dC, dNeg, dBin, oI, oI0, oEq, oIx, dTst, dAndT, dOrT, dNotT, dAndV, dOrV, dNotV, dIfE, dNil, dCons, dTup, dLst, dIxN, dCall, dCB, oAt, oAbs, gdName, gdNil, gdCons, gdTup, startD, tYesD, dIsi, List.map, List.length, List.replicate, Nat.sub_self, Nat.reduceSub, Nat.reduceAdd, List.reduceReplicate, List.append_nil, List.nil_append, List.cons_append, List.getElem?_cons_zero, List.getElem?_cons_succ, List.set_cons_zero, List.set_cons_succ, if_true, if_false, Bool.not_true, Bool.not_false, Bool.false_eq_true, decide_true, decide_false, true_and, and_true]
            exact last
        · simp only [q3, sRet, sSeq, sIf, sNext, sSet, sPar, sAsg, sFor, sNever, sCont, dVar, dC, dNeg, dBin, oI, oI0, oEq, oIx, dTst, dAndT, dOrT, dNotT, dAndV, dOrV, dNotV, dIfE, dNil, dCons, dTup, dLst, dIxN, dCall, dCB, oAt, oAbs, gdName, gdNil, gdCons, gdTup, startD, tYesD, dIsi, List.map, List.length, List.replicate, Nat.sub_self, Nat.reduceSub, Nat.reduceAdd, List.reduceReplicate, List.append_nil, List.nil_append, List.cons_append, List.getElem?_cons_zero, List.getElem?_cons_succ, List.set_cons_zero, List.set_cons_succ, if_true, if_false, Bool.not_true, Bool.not_false, Bool.false_eq_true, decide_true, decide_false, true_and, and_true]
          exact last
end K23
/-! the readings keep the promises: shapes, names, rows -/
namespace K23
open PySem PySem.Spec PyProof.Rows L2
theorem atI_ex {α : Type} {xs : List α} {i : Int} (h0 : 0 ≤ i) (h1 : i < xs.length) : ∃ v ∈ xs, atI xs i = some v := by
  obtain ⟨j, rfl⟩ := Int.eq_ofNat_of_zero_le h0
  have hj : j < xs.length := by omega
  exact ⟨xs[j], List.getElem_mem hj, atI_nat (List.getElem?_eq_getElem hj)⟩
theorem atI_pre {α : Type} (xs : List α) (u v : α) : atI (xs ++ [u, v]) (-2) = some u := by
  have hl : (xs ++ [u, v]).length = xs.length + 2 := by simp
  have e : ixN (xs ++ [u, v]).length (-2) = some xs.length := by
    unfold ixN
    rw [hl, if_neg (by decide), if_pos (by omega)]
    congr 1
    omega
  unfold atI
  rw [e]
  show (xs ++ [u, v])[xs.length]? = some u
  simp
theorem cut_last (xs : List D) (v : D) : cutD (xs ++ [v]) none (some (-1)) = xs := by
  unfold cutD
  rw [HT.sIx_none]
  have e : HT.sIx (xs ++ [v]).length (xs ++ [v]).length (some (-1)) = xs.length := by
    show (if (-1 : Int) < 0 then ((-1 : Int) + ((xs ++ [v]).length : Int)).toNat else min (-1 : Int).toNat (xs ++ [v]).length) = xs.length
    rw [if_pos (by decide)]
    simp
    omega
  rw [e]
  simp
abbrev chD (ch : List P2) : D := .lst (ch.reverse.map dPr)
theorem pop_len (c : P2) : ∀ ch : List P2, (popM c ch).length ≤ ch.length
  | [] => by simp [popM]
  | [b] => by simp [popM]
  | b :: a :: r => by
    unfold popM
    split
    · have := pop_len c (a :: r)
      simp at *
      omega
    · exact Nat.le_refl _
theorem pop_sub (c : P2) : ∀ ch : List P2, ∀ p ∈ popM c ch, p ∈ ch
  | [], p, h => by simp [popM] at h
  | [b], p, h => by simpa [popM] using h
  | b :: a :: r, p, h => by
    unfold popM at h
    split at h
    · exact List.mem_cons_of_mem _ (pop_sub c (a :: r) p h)
    · exact h
def stepM (ch : List P2) (c : P2) : List P2 := c :: popM c ch
theorem half_eq (ps : List P2) : halfM ps = (ps.foldl stepM []).tail.reverse := rfl
theorem rd_halfL : Rd 1 3 sp_halfL t_halfL := by
  rintro _ ⟨dk, ow⟩ R - ho ⟨ps, rfl, hne, hl, hB, h⟩
  cases ho
  simp only [t_halfL, iLst, sWhile, sRet, sSeq, sIf, sNext, sSet, sPar, sAsg, sFor, sNever, sCont, dVar, dC, dNeg, dBin, oI, oI0, oEq, oIx, dTst, dAndT, dOrT, dNotT, dAndV, dOrV, dNotV, dIfE, dNil, dCons, dTup, dLst, dIxN, dCall, dCB, oAt, oAbs, gdName, gdNil, gdCons, gdTup, startD, tYesD, dIsi, List.map, List.length, List.replicate, Nat.sub_self, Nat.reduceSub, Nat.reduceAdd, List.reduceReplicate, List.append_nil, List.nil_append, List.cons_append, List.getElem?_cons_zero, List.getElem?_cons_succ, List.set_cons_zero, List.set_cons_succ, if_true, if_false, Bool.not_true, Bool.not_false, Bool.false_eq_true, decide_true, decide_false, true_and, and_true]
  refine loop_rule (fun items ds m => ∃ (todo ch : List P2) (o : Option D), items = todo.map dPr ∧ ds = [some (.lst (ps.map dPr)), some (chD ch), o] ∧ m = ⟨dk, none⟩ ∧ ch.length + todo.length ≤ 100 ∧ (∀ p ∈ ch, BW 21 p) ∧ (∀ p ∈ todo, BW 21 p) ∧ todo.foldl stepM ch = ps.foldl stepM [] ∧ (ch ≠ [] ∨ todo ≠ [])) ?_ ?_ _ _ _ ⟨ps, [], _, rfl, rfl, rfl, by simpa using hl, by simp, hB, rfl, .inr hne⟩
  · rintro x xs _ _ J ⟨todo, ch, o, e2, rfl, rfl, hz, hc, ht, hf, _⟩ hJ
    cases todo with
    | nil => cases e2
    | cons c todo =>
      cases e2
      have bc : BW 21 c := ht c List.mem_cons_self
      simp only [sRet, sSeq, sIf, sNext, sSet, sPar, sAsg, sFor, sNever, sCont, dVar, dC, dNeg, dBin, oI, oI0, oEq, oIx, dTst, dAndT, dOrT, dNotT, dAndV, dOrV, dNotV, dIfE, dNil, dCons, dTup, dLst, dIxN, dCall, dCB, oAt, oAbs, gdName, gdNil, gdCons, gdTup, startD, tYesD, dIsi, List.map, List.length, List.replicate, Nat.sub_self, Nat.reduceSub, Nat.reduceAdd, List.reduceReplicate, List.append_nil, List.nil_append, List.cons_append, List.getElem?_cons_zero, List.getElem?_cons_succ, List.set_cons_zero, List.set_cons_succ, if_true, if_false, Bool.not_true, Bool.not_false, Bool.false_eq_true, decide_true, decide_false, true_and, and_true]
      refine ⟨fun n ds m => ∃ ch' : List P2, ds = [some (.lst (ps.map dPr)), some (chD ch'), some (dPr c)] ∧ n = ch'.length ∧ popM c ch' = popM c ch ∧ (∀ p ∈ ch', BW 21 p) ∧ m = ⟨dk, none⟩ ∧ ch'.length ≤ ch.length, ⟨_, ch, rfl, rfl, rfl, hc, rfl, Nat.le_refl _⟩, ?_⟩
      rintro n _ _ ⟨ch', rfl, rfl, hp, hb, rfl, hle⟩
      have leave : popM c ch' = ch' → (ch'.length : Int) + 1 ≤ 100000 → (chD ch' = chD ch') → (List.map dPr ch'.reverse).length + 1 ≤ 100000 ∧ J [some (.lst (ps.map dPr)), some (.lst (ch'.reverse.map dPr ++ [dPr c])), some (dPr c)] ⟨dk, none⟩ := fun q _ _ => by
        refine ⟨by simp at hz ⊢; omega, ?_⟩
        refine hJ _ _ ⟨todo, stepM ch c, some (dPr c), rfl, ?_, rfl, ?_, ?_, fun p hp' => ht p (List.mem_cons_of_mem _ hp'), hf, .inl (by simp [stepM])⟩
        · unfold stepM
          rw [← hp, q]
          simp
        · have := pop_len c ch
          unfold stepM
          simp at hz ⊢
          omega
        · intro p hp'
          rcases List.mem_cons.mp hp' with k | k
          · rw [k]; exact bc
          · exact hc p (pop_sub c ch p k)
      match ch', hp, hb, hle, leave with
      | [], hp, hb, hle, leave =>
        simp only [oLen, oPlus, List.reverse_nil, Int.cast_ofNat_Int, sRet, sSeq, sIf, sNext, sSet, sPar, sAsg, sFor, sNever, sCont, dVar, dC, dNeg, dBin, oI, oI0, oEq, oIx, dTst, dAndT, dOrT, dNotT, dAndV, dOrV, dNotV, dIfE, dNil, dCons, dTup, dLst, dIxN, dCall, dCB, oAt, oAbs, gdName, gdNil, gdCons, gdTup, startD, tYesD, dIsi, List.map, List.length, List.replicate, Nat.sub_self, Nat.reduceSub, Nat.reduceAdd, List.reduceReplicate, List.append_nil, List.nil_append, List.cons_append, List.getElem?_cons_zero, List.getElem?_cons_succ, List.set_cons_zero, List.set_cons_succ, if_true, if_false, Bool.not_true, Bool.not_false, Bool.false_eq_true, decide_true, decide_false, true_and, and_true]
        exact leave rfl (by simp) rfl
      | [b], hp, hb, hle, leave =>
        simp only [oLen, oPlus, List.reverse_cons, List.reverse_nil, Int.cast_ofNat_Int, sRet, sSeq, sIf, sNext, sSet, sPar, sAsg, sFor, sNever, sCont, dVar, dC, dNeg, dBin, oI, oI0, oEq, oIx, dTst, dAndT, dOrT, dNotT, dAndV, dOrV, dNotV, dIfE, dNil, dCons, dTup, dLst, dIxN, dCall, dCB, oAt, oAbs, gdName, gdNil, gdCons, gdTup, startD, tYesD, dIsi, List.map, List.length, List.replicate, Nat.sub_self, Nat.reduceSub, Nat.reduceAdd, List.reduceReplicate, List.append_nil, List.nil_append, List.cons_append, List.getElem?_cons_zero, List.getElem?_cons_succ, List.set_cons_zero, List.set_cons_succ, if_true, if_false, Bool.not_true, Bool.not_false, Bool.false_eq_true, decide_true, decide_false, true_and, and_true]
        exact leave rfl (by simp) rfl
      | b :: a :: r, hp, hb, hle, leave =>
        have e0 : (b :: a :: r).reverse.map dPr = (r.reverse.map dPr) ++ [dPr a, dPr b] := by simp
        have e0' : (b :: a :: r).reverse.map dPr = ((r.reverse.map dPr) ++ [dPr a]) ++ [dPr b] := by simp
        have e1 : atI ((b :: a :: r).reverse.map dPr) (-2) = some (dPr a) := by rw [e0]; exact atI_pre _ _ _
        have e2 : atI ((b :: a :: r).reverse.map dPr) (-1) = some (dPr b) := by rw [e0']; exact atI_last _ _
        have e3 : cutD ((b :: a :: r).reverse.map dPr) none (some (-1)) = (a :: r).reverse.map dPr := by rw [e0', cut_last]; simp
        have e4 : (1 : Int) < (((b :: a :: r).reverse.map dPr).length : Int) := by simp; omega
        have hl' : (((b :: a :: r).length : Int)) + 1 ≤ 100000 := by simp at hz hle ⊢; omega
        have lv := fun q => leave q hl' rfl
        simp only [oLen, dSl, dNoPart, dPart, sp_leftL, e1, e2, e4, sRet, sSeq, sIf, sNext, sSet, sPar, sAsg, sFor, sNever, sCont, dVar, dC, dNeg, dBin, oI, oI0, oEq, oIx, dTst, dAndT, dOrT, dNotT, dAndV, dOrV, dNotV, dIfE, dNil, dCons, dTup, dLst, dIxN, dCall, dCB, oAt, oAbs, gdName, gdNil, gdCons, gdTup, startD, tYesD, dIsi, List.map, List.length, List.replicate, Nat.sub_self, Nat.reduceSub, Nat.reduceAdd, List.reduceReplicate, List.append_nil, List.nil_append, List.cons_append, List.getElem?_cons_zero, List.getElem?_cons_succ, List.set_cons_zero, List.set_cons_succ, if_true, if_false, Bool.not_true, Bool.not_false, Bool.false_eq_true, decide_true, decide_false, true_and, and_true]
        refine ⟨a, b, c, rfl, hb a (by simp), hb b (by simp), bc, ?_⟩
        by_cases q : leftM a b c ≤ 0
        · simp only [q, e3, sRet, sSeq, sIf, sNext, sSet, sPar, sAsg, sFor, sNever, sCont, dVar, dC, dNeg, dBin, oI, oI0, oEq, oIx, dTst, dAndT, dOrT, dNotT, dAndV, dOrV, dNotV, dIfE, dNil, dCons, dTup, dLst, dIxN, dCall, dCB, oAt, oAbs, gdName, gdNil, gdCons, gdTup, startD, tYesD, dIsi, List.map, List.length, List.replicate, Nat.sub_self, Nat.reduceSub, Nat.reduceAdd, List.reduceReplicate, List.append_nil, List.nil_append, List.cons_append, List.getElem?_cons_zero, List.getElem?_cons_succ, List.set_cons_zero, List.set_cons_succ, if_true, if_false, Bool.not_true, Bool.not_false, Bool.false_eq_true, decide_true, decide_false, true_and, and_true]
          refine ⟨_, fun ds' m' k => k, (a :: r).length, by simp, a :: r, rfl, rfl, ?_, fun p hp' => hb p (List.mem_cons_of_mem _ hp'), rfl, by simp at hle ⊢; omega⟩
          rw [← hp]
          exact (by show popM c (a :: r) = (if leftM a b c ≤ 0 then popM c (a :: r) else b :: a :: r); rw [if_pos q])
        · simp only [q, oPlus, sRet, sSeq, sIf, sNext, sSet, sPar, sAsg, sFor, sNever, sCont, dVar, dC, dNeg, dBin, oI, oI0, oEq, oIx, dTst, dAndT, dOrT, dNotT, dAndV, dOrV, dNotV, dIfE, dNil, dCons, dTup, dLst, dIxN, dCall, dCB, oAt, oAbs, gdName, gdNil, gdCons, gdTup, startD, tYesD, dIsi, List.map, List.length, List.replicate, Nat.sub_self, Nat.reduceSub, Nat.reduceAdd, List.reduceReplicate, List.append_nil, List.nil_append, List.cons_append, List.getElem?_cons_zero, List.getElem?_cons_succ, List.set_cons_zero, List.set_cons_succ, if_true, if_false, Bool.not_true, Bool.not_false, Bool.false_eq_true, decide_true, decide_false, true_and, and_true]
          refine lv ?_
          show (if leftM a b c ≤ 0 then popM c (a :: r) else b :: a :: r) = _
          rw [if_neg q]
  · rintro _ _ ⟨todo, ch, o, e2, rfl, rfl, hz, hc, ht, hf, hn⟩
    cases todo with
    | cons y todo => cases e2
    | nil =>
      cases ch with
      | nil => rcases hn with q | q <;> exact absurd rfl q
      | cons c ch =>
        have e : (c :: ch).reverse.map dPr = ch.reverse.map dPr ++ [dPr c] := by simp
        simp only [dSl, dNoPart, dPart, chD, sRet, sSeq, sIf, sNext, sSet, sPar, sAsg, sFor, sNever, sCont, dVar, dC, dNeg, dBin, oI, oI0, oEq, oIx, dTst, dAndT, dOrT, dNotT, dAndV, dOrV, dNotV, dIfE, dNil, dCons, dTup, dLst, dIxN, dCall, dCB, oAt, oAbs, gdName, gdNil, gdCons, gdTup, startD, tYesD, dIsi, List.map, List.length, List.replicate, Nat.sub_self, Nat.reduceSub, Nat.reduceAdd, List.reduceReplicate, List.append_nil, List.nil_append, List.cons_append, List.getElem?_cons_zero, List.getElem?_cons_succ, List.set_cons_zero, List.set_cons_succ, if_true, if_false, Bool.not_true, Bool.not_false, Bool.false_eq_true, decide_true, decide_false, true_and, and_true]
        rw [e, cut_last]
        have e2 : halfM ps = ch.reverse := by
          rw [half_eq, ← hf]
          rfl
        rw [e2] at h
        exact h
theorem rd_eightL : Rd 2 7 sp_eightL t_eightL := by
  rintro _ ⟨dk, ow⟩ R - ho ⟨a, k, rfl, h0, h1, d, rfl, rfl, hb, h⟩
  cases ho
  have b2 : B 2 2 := by unfold B; decide
  have bk : B 21 k := B.le (by omega) (by omega)
  simp only [t_eightL, iRng, dLc, sRet, sSeq, sIf, sNext, sSet, sPar, sAsg, sFor, sNever, sCont, dVar, dC, dNeg, dBin, oI, oI0, oEq, oIx, dTst, dAndT, dOrT, dNotT, dAndV, dOrV, dNotV, dIfE, dNil, dCons, dTup, dLst, dIxN, dCall, dCB, oAt, oAbs, gdName, gdNil, gdCons, gdTup, startD, tYesD, dIsi, List.map, List.length, List.replicate, Nat.sub_self, Nat.reduceSub, Nat.reduceAdd, List.reduceReplicate, List.append_nil, List.nil_append, List.cons_append, List.getElem?_cons_zero, List.getElem?_cons_succ, List.set_cons_zero, List.set_cons_succ, if_true, if_false, Bool.not_true, Bool.not_false, Bool.false_eq_true, decide_true, decide_false, true_and, and_true]
  refine ⟨mulW b2 bk (by decide), mulW b2 bk (by decide), ⟨by decide, by decide⟩, ?_⟩
  refine lc_rule (fun items acc dk' => ∃ (ns : List Int) (n' : Nat), acc = ns.map D.int ∧ ns.length + items.length = 8 ∧ (∀ n ∈ ns, 1 ≤ n ∧ n ≤ k) ∧ n' + items.length * 20 ≤ d.n + 160 ∧ dk' = some { d with n := n' }) ?_ ?_ _ _ _ ⟨[], d.n, rfl, rfl, by simp, by simp [intsTo], rfl⟩
  · rintro x xs _ _ J ⟨ns, n', rfl, hl, hn, hb', rfl⟩ hJ
    simp only [wipeD, sp_numberL, sRet, sSeq, sIf, sNext, sSet, sPar, sAsg, sFor, sNever, sCont, dVar, dC, dNeg, dBin, oI, oI0, oEq, oIx, dTst, dAndT, dOrT, dNotT, dAndV, dOrV, dNotV, dIfE, dNil, dCons, dTup, dLst, dIxN, dCall, dCB, oAt, oAbs, gdName, gdNil, gdCons, gdTup, startD, tYesD, dIsi, List.map, List.length, List.replicate, Nat.sub_self, Nat.reduceSub, Nat.reduceAdd, List.reduceReplicate, List.append_nil, List.nil_append, List.cons_append, List.getElem?_cons_zero, List.getElem?_cons_succ, List.set_cons_zero, List.set_cons_succ, if_true, if_false, Bool.not_true, Bool.not_false, Bool.false_eq_true, decide_true, decide_false, true_and, and_true]
    refine ⟨d.a, k, rfl, h0, by omega, { d with n := n' }, rfl, rfl, by simp at hb' ⊢; omega, fun n2 hn2 r r0 r1 => ⟨h0, by simp at hl ⊢; omega, ?_⟩⟩
    refine hJ _ _ ⟨ns ++ [1 + (r.natAbs : Int) % k], n2, by simp, by simp at hl ⊢; omega, fun n hn' => ?_, by simp at hb' hn2; omega, rfl⟩
    rcases List.mem_append.mp hn' with q | q
    · exact hn n q
    · rw [List.mem_singleton.mp q]
      have := Int.emod_nonneg (r.natAbs : Int) (show k ≠ 0 by omega)
      have := Int.emod_lt_of_pos (r.natAbs : Int) h0
      omega
  · rintro _ _ ⟨ns, n', rfl, hl, hn, hb', rfl⟩
    match ns, hl, hn with
    | [c0, c1, c2, c3, c4, c5, c6, c7], hl, hn =>
      simp only [oPlus, oTuple, sRet, sSeq, sIf, sNext, sSet, sPar, sAsg, sFor, sNever, sCont, dVar, dC, dNeg, dBin, oI, oI0, oEq, oIx, dTst, dAndT, dOrT, dNotT, dAndV, dOrV, dNotV, dIfE, dNil, dCons, dTup, dLst, dIxN, dCall, dCB, oAt, oAbs, gdName, gdNil, gdCons, gdTup, startD, tYesD, dIsi, List.map, List.length, List.replicate, Nat.sub_self, Nat.reduceSub, Nat.reduceAdd, List.reduceReplicate, List.append_nil, List.nil_append, List.cons_append, List.getElem?_cons_zero, List.getElem?_cons_succ, List.set_cons_zero, List.set_cons_succ, if_true, if_false, Bool.not_true, Bool.not_false, Bool.false_eq_true, decide_true, decide_false, true_and, and_true]
      refine ⟨by decide, ?_⟩
      have g := goodEight (k := k) ⟨by omega, h1⟩ (hn c0 (by simp)) (hn c1 (by simp)) (hn c2 (by simp)) (hn c3 (by simp)) (hn c4 (by simp)) (hn c5 (by simp)) (hn c6 (by simp)) (hn c7 (by simp))
      exact h n' (by simp at hb'; omega) _ g
    | [], hl, hn => simp at hl
    | [_], hl, hn => simp at hl
    | [_, _], hl, hn => simp at hl
    | [_, _, _], hl, hn => simp at hl
    | [_, _, _, _], hl, hn => simp at hl
    | [_, _, _, _, _], hl, hn => simp at hl
    | [_, _, _, _, _, _], hl, hn => simp at hl
    | [_, _, _, _, _, _, _], hl, hn => simp at hl
    | _ :: _ :: _ :: _ :: _ :: _ :: _ :: _ :: _ :: _, hl, hn => simp at hl
theorem rd_shapeL : Rd 2 11 sp_shapeL t_shapeL := by
  rintro _ ⟨dk, ow⟩ R - ho ⟨a, sp, rfl, h0, h1, d, rfl, rfl, hb, h⟩
  cases ho
  simp only [t_shapeL, sp_takeL, sRet, sSeq, sIf, sNext, sSet, sPar, sAsg, sFor, sNever, sCont, dVar, dC, dNeg, dBin, oI, oI0, oEq, oIx, dTst, dAndT, dOrT, dNotT, dAndV, dOrV, dNotV, dIfE, dNil, dCons, dTup, dLst, dIxN, dCall, dCB, oAt, oAbs, gdName, gdNil, gdCons, gdTup, startD, tYesD, dIsi, List.map, List.length, List.replicate, Nat.sub_self, Nat.reduceSub, Nat.reduceAdd, List.reduceReplicate, List.append_nil, List.nil_append, List.cons_append, List.getElem?_cons_zero, List.getElem?_cons_succ, List.set_cons_zero, List.set_cons_succ, if_true, if_false, Bool.not_true, Bool.not_false, Bool.false_eq_true, decide_true, decide_false, true_and, and_true]
  refine ⟨d.a, 4, rfl, by decide, by decide, d, rfl, rfl, by omega, fun n1 hn1 r r0 r1 => ?_⟩
  by_cases q0 : r = 0
  · simp only [q0, sp_numberL, sRet, sSeq, sIf, sNext, sSet, sPar, sAsg, sFor, sNever, sCont, dVar, dC, dNeg, dBin, oI, oI0, oEq, oIx, dTst, dAndT, dOrT, dNotT, dAndV, dOrV, dNotV, dIfE, dNil, dCons, dTup, dLst, dIxN, dCall, dCB, oAt, oAbs, gdName, gdNil, gdCons, gdTup, startD, tYesD, dIsi, List.map, List.length, List.replicate, Nat.sub_self, Nat.reduceSub, Nat.reduceAdd, List.reduceReplicate, List.append_nil, List.nil_append, List.cons_append, List.getElem?_cons_zero, List.getElem?_cons_succ, List.set_cons_zero, List.set_cons_succ, if_true, if_false, Bool.not_true, Bool.not_false, Bool.false_eq_true, decide_true, decide_false, true_and, and_true]
    refine ⟨d.a, sp, rfl, by omega, h1, _, rfl, rfl, by simp; omega, fun n2 hn2 x x0 x1 => ⟨d.a, sp, rfl, by omega, h1, _, rfl, rfl, by simp at hn2 ⊢; omega, fun n3 hn3 y y0 y1 => ?_⟩⟩
    refine ⟨d.a, sp - 1, rfl, by omega, by omega, _, rfl, rfl, by simp at hn2 hn3 ⊢; omega, fun n4 hn4 w w0 w1 => ⟨d.a, sp - 1, rfl, by omega, by omega, _, rfl, rfl, by simp at hn2 hn3 hn4 ⊢; omega, fun n5 hn5 v v0 v1 => ?_⟩⟩
    have g := goodBox (x := -(x.natAbs : Int)) (y := -(y.natAbs : Int)) (w := 1 + (w.natAbs : Int)) (h := 1 + (v.natAbs : Int)) (by omega) (by omega) (by omega) (by omega)
    exact h n5 (by simp at hn2 hn3 hn4 hn5; omega) _ g
  · simp only [q0, sRet, sSeq, sIf, sNext, sSet, sPar, sAsg, sFor, sNever, sCont, dVar, dC, dNeg, dBin, oI, oI0, oEq, oIx, dTst, dAndT, dOrT, dNotT, dAndV, dOrV, dNotV, dIfE, dNil, dCons, dTup, dLst, dIxN, dCall, dCB, oAt, oAbs, gdName, gdNil, gdCons, gdTup, startD, tYesD, dIsi, List.map, List.length, List.replicate, Nat.sub_self, Nat.reduceSub, Nat.reduceAdd, List.reduceReplicate, List.append_nil, List.nil_append, List.cons_append, List.getElem?_cons_zero, List.getElem?_cons_succ, List.set_cons_zero, List.set_cons_succ, if_true, if_false, Bool.not_true, Bool.not_false, Bool.false_eq_true, decide_true, decide_false, true_and, and_true]
    by_cases q1 : r = 1
    · simp only [q1, sp_eightL, sRet, sSeq, sIf, sNext, sSet, sPar, sAsg, sFor, sNever, sCont, dVar, dC, dNeg, dBin, oI, oI0, oEq, oIx, dTst, dAndT, dOrT, dNotT, dAndV, dOrV, dNotV, dIfE, dNil, dCons, dTup, dLst, dIxN, dCall, dCB, oAt, oAbs, gdName, gdNil, gdCons, gdTup, startD, tYesD, dIsi, List.map, List.length, List.replicate, Nat.sub_self, Nat.reduceSub, Nat.reduceAdd, List.reduceReplicate, List.append_nil, List.nil_append, List.cons_append, List.getElem?_cons_zero, List.getElem?_cons_succ, List.set_cons_zero, List.set_cons_succ, if_true, if_false, Bool.not_true, Bool.not_false, Bool.false_eq_true, decide_true, decide_false, true_and, and_true]
      have e : sp.fdiv 3 = sp / 3 := fdiv_g _ (by decide)
      rw [e]
      exact ⟨⟨by decide, by decide⟩, d.a, sp / 3, rfl, by omega, by omega, _, rfl, rfl, by simp; omega, fun n2 hn2 cs hcs => h n2 (by simp at hn2; omega) cs hcs⟩
    · simp only [q1, sRet, sSeq, sIf, sNext, sSet, sPar, sAsg, sFor, sNever, sCont, dVar, dC, dNeg, dBin, oI, oI0, oEq, oIx, dTst, dAndT, dOrT, dNotT, dAndV, dOrV, dNotV, dIfE, dNil, dCons, dTup, dLst, dIxN, dCall, dCB, oAt, oAbs, gdName, gdNil, gdCons, gdTup, startD, tYesD, dIsi, List.map, List.length, List.replicate, Nat.sub_self, Nat.reduceSub, Nat.reduceAdd, List.reduceReplicate, List.append_nil, List.nil_append, List.cons_append, List.getElem?_cons_zero, List.getElem?_cons_succ, List.set_cons_zero, List.set_cons_succ, if_true, if_false, Bool.not_true, Bool.not_false, Bool.false_eq_true, decide_true, decide_false, true_and, and_true]
      refine ⟨d.a, 6, rfl, by decide, by decide, _, rfl, rfl, by simp; omega, fun n2 hn2 s s0 s1 => ?_⟩
      simp only [iRng, dLc, sRet, sSeq, sIf, sNext, sSet, sPar, sAsg, sFor, sNever, sCont, dVar, dC, dNeg, dBin, oI, oI0, oEq, oIx, dTst, dAndT, dOrT, dNotT, dAndV, dOrV, dNotV, dIfE, dNil, dCons, dTup, dLst, dIxN, dCall, dCB, oAt, oAbs, gdName, gdNil, gdCons, gdTup, startD, tYesD, dIsi, List.map, List.length, List.replicate, Nat.sub_self, Nat.reduceSub, Nat.reduceAdd, List.reduceReplicate, List.append_nil, List.nil_append, List.cons_append, List.getElem?_cons_zero, List.getElem?_cons_succ, List.set_cons_zero, List.set_cons_succ, if_true, if_false, Bool.not_true, Bool.not_false, Bool.false_eq_true, decide_true, decide_false, true_and, and_true]
      refine ⟨⟨by omega, by omega⟩, ?_⟩
      refine lc_rule (fun items acc dk' => ∃ (ps : List P2) (n' : Nat), acc = ps.map dPr ∧ ps.length + items.length = (3 + s).toNat ∧ (∀ p ∈ ps, BW 21 p) ∧ n' + items.length * 40 ≤ d.n + 400 ∧ dk' = some { d with n := n' }) ?_ ?_ _ _ _ ⟨[], n2, rfl, by simp [intsTo], by simp, by simp [intsTo] at hn2 ⊢; omega, rfl⟩
      · rintro x xs _ _ J ⟨ps, n', rfl, hl, hp, hb', rfl⟩ hJ
        simp only [wipeD, sp_numberL, sRet, sSeq, sIf, sNext, sSet, sPar, sAsg, sFor, sNever, sCont, dVar, dC, dNeg, dBin, oI, oI0, oEq, oIx, dTst, dAndT, dOrT, dNotT, dAndV, dOrV, dNotV, dIfE, dNil, dCons, dTup, dLst, dIxN, dCall, dCB, oAt, oAbs, gdName, gdNil, gdCons, gdTup, startD, tYesD, dIsi, List.map, List.length, List.replicate, Nat.sub_self, Nat.reduceSub, Nat.reduceAdd, List.reduceReplicate, List.append_nil, List.nil_append, List.cons_append, List.getElem?_cons_zero, List.getElem?_cons_succ, List.set_cons_zero, List.set_cons_succ, if_true, if_false, Bool.not_true, Bool.not_false, Bool.false_eq_true, decide_true, decide_false, true_and, and_true]
        refine ⟨d.a, sp, rfl, by omega, h1, { d with n := n' }, rfl, rfl, by simp at hb' ⊢; omega, fun n3 hn3 x x0 x1 => ⟨d.a, sp, rfl, by omega, h1, _, rfl, rfl, by simp at hb' hn3 ⊢; omega, fun n4 hn4 y y0 y1 => ⟨by simp at hl ⊢; omega, ?_⟩⟩⟩
        refine hJ _ _ ⟨ps ++ [(x, y)], n4, by simp, by simp at hl ⊢; omega, fun p hp' => ?_, by simp at hb' hn3 hn4; omega, rfl⟩
        rcases List.mem_append.mp hp' with q | q
        · exact hp p q
        · rw [List.mem_singleton.mp q]
          exact ⟨B.le (by show _ < x; omega) (by show x < _; omega), B.le (by show _ < y; omega) (by show y < _; omega)⟩
      · rintro _ _ ⟨ps, n', rfl, hl, hp, hb', rfl⟩
        simp only [oSorted, sp_halfL, dRev, oTuple, sRet, sSeq, sIf, sNext, sSet, sPar, sAsg, sFor, sNever, sCont, dVar, dC, dNeg, dBin, oI, oI0, oEq, oIx, dTst, dAndT, dOrT, dNotT, dAndV, dOrV, dNotV, dIfE, dNil, dCons, dTup, dLst, dIxN, dCall, dCB, oAt, oAbs, gdName, gdNil, gdCons, gdTup, startD, tYesD, dIsi, List.map, List.length, List.replicate, Nat.sub_self, Nat.reduceSub, Nat.reduceAdd, List.reduceReplicate, List.append_nil, List.nil_append, List.cons_append, List.getElem?_cons_zero, List.getElem?_cons_succ, List.set_cons_zero, List.set_cons_succ, if_true, if_false, Bool.not_true, Bool.not_false, Bool.false_eq_true, decide_true, decide_false, true_and, and_true]
        have hl : ps.length = (3 + s).toNat := hl
        refine ⟨ps, rfl, fun qs hperm hlex => ?_⟩
        have ql : qs.length ≤ 20 := by rw [hperm.length_eq]; omega
        have qne : qs ≠ [] := fun z => by
          rw [z] at hperm
          have := hperm.length_eq
          simp at this
          omega
        have qB : ∀ p ∈ qs, BW 21 p := fun p q => hp p (hperm.mem_iff.mp q)
        refine ⟨qs, rfl, qne, by omega, qB, qs.reverse, by rw [List.map_reverse], by simpa using qne, by simpa using by omega, fun p q => qB p (by simpa using q), ?_⟩
        simp only [oPlus, sRet, sSeq, sIf, sNext, sSet, sPar, sAsg, sFor, sNever, sCont, dVar, dC, dNeg, dBin, oI, oI0, oEq, oIx, dTst, dAndT, dOrT, dNotT, dAndV, dOrV, dNotV, dIfE, dNil, dCons, dTup, dLst, dIxN, dCall, dCB, oAt, oAbs, gdName, gdNil, gdCons, gdTup, startD, tYesD, dIsi, List.map, List.length, List.replicate, Nat.sub_self, Nat.reduceSub, Nat.reduceAdd, List.reduceReplicate, List.append_nil, List.nil_append, List.cons_append, List.getElem?_cons_zero, List.getElem?_cons_succ, List.set_cons_zero, List.set_cons_succ, if_true, if_false, Bool.not_true, Bool.not_false, Bool.false_eq_true, decide_true, decide_false, true_and, and_true]
        have l1 := half_len qs
        have l2 := half_len qs.reverse
        rw [List.length_reverse] at l2
        refine ⟨by simp; omega, ?_⟩
        rw [← List.map_append]
        simp only [oLen, sRet, sSeq, sIf, sNext, sSet, sPar, sAsg, sFor, sNever, sCont, dVar, dC, dNeg, dBin, oI, oI0, oEq, oIx, dTst, dAndT, dOrT, dNotT, dAndV, dOrV, dNotV, dIfE, dNil, dCons, dTup, dLst, dIxN, dCall, dCB, oAt, oAbs, gdName, gdNil, gdCons, gdTup, startD, tYesD, dIsi, List.map, List.length, List.replicate, Nat.sub_self, Nat.reduceSub, Nat.reduceAdd, List.reduceReplicate, List.append_nil, List.nil_append, List.cons_append, List.getElem?_cons_zero, List.getElem?_cons_succ, List.set_cons_zero, List.set_cons_succ, if_true, if_false, Bool.not_true, Bool.not_false, Bool.false_eq_true, decide_true, decide_false, true_and, and_true]
        have nb : n' ≤ d.n + 500 := by simp at hb'; omega
        by_cases q3 : (((halfM qs ++ halfM qs.reverse).map dPr).length : Int) < 3
        · simp only [q3, sRet, sSeq, sIf, sNext, sSet, sPar, sAsg, sFor, sNever, sCont, dVar, dC, dNeg, dBin, oI, oI0, oEq, oIx, dTst, dAndT, dOrT, dNotT, dAndV, dOrV, dNotV, dIfE, dNil, dCons, dTup, dLst, dIxN, dCall, dCB, oAt, oAbs, gdName, gdNil, gdCons, gdTup, startD, tYesD, dIsi, List.map, List.length, List.replicate, Nat.sub_self, Nat.reduceSub, Nat.reduceAdd, List.reduceReplicate, List.append_nil, List.nil_append, List.cons_append, List.getElem?_cons_zero, List.getElem?_cons_succ, List.set_cons_zero, List.set_cons_succ, if_true, if_false, Bool.not_true, Bool.not_false, Bool.false_eq_true, decide_true, decide_false, true_and, and_true]
          exact h n' nb _ goodDef
        · simp only [q3, sRet, sSeq, sIf, sNext, sSet, sPar, sAsg, sFor, sNever, sCont, dVar, dC, dNeg, dBin, oI, oI0, oEq, oIx, dTst, dAndT, dOrT, dNotT, dAndV, dOrV, dNotV, dIfE, dNil, dCons, dTup, dLst, dIxN, dCall, dCB, oAt, oAbs, gdName, gdNil, gdCons, gdTup, startD, tYesD, dIsi, List.map, List.length, List.replicate, Nat.sub_self, Nat.reduceSub, Nat.reduceAdd, List.reduceReplicate, List.append_nil, List.nil_append, List.cons_append, List.getElem?_cons_zero, List.getElem?_cons_succ, List.set_cons_zero, List.set_cons_succ, if_true, if_false, Bool.not_true, Bool.not_false, Bool.false_eq_true, decide_true, decide_false, true_and, and_true]
          exact h n' nb _ (goodHull hlex ql qB (by simp at q3 ⊢; omega))
end K23
/-! the readings keep the promises: names, rows, pairs, papers -/
namespace K23
open PySem PySem.Spec PyProof.Rows L2
theorem rd_rowL : Rd 5 13 sp_rowL t_rowL := by
  rintro _ ⟨dk, ow⟩ R - ho ⟨a, nm, sp, z, fr, rfl, h0, h1, z0, z1, d, rfl, rfl, hb, h⟩
  cases ho
  simp only [t_rowL, sp_takeL, sp_shapeL, sp_drawnL, sRet, sSeq, sIf, sNext, sSet, sPar, sAsg, sFor, sNever, sCont, dVar, dC, dNeg, dBin, oI, oI0, oEq, oIx, dTst, dAndT, dOrT, dNotT, dAndV, dOrV, dNotV, dIfE, dNil, dCons, dTup, dLst, dIxN, dCall, dCB, oAt, oAbs, gdName, gdNil, gdCons, gdTup, startD, tYesD, dIsi, List.map, List.length, List.replicate, Nat.sub_self, Nat.reduceSub, Nat.reduceAdd, List.reduceReplicate, List.append_nil, List.nil_append, List.cons_append, List.getElem?_cons_zero, List.getElem?_cons_succ, List.set_cons_zero, List.set_cons_succ, if_true, if_false, Bool.not_true, Bool.not_false, Bool.false_eq_true, decide_true, decide_false, true_and, and_true]
  refine ⟨_, _, rfl, by decide, by decide, d, rfl, rfl, by omega, fun n1 hn1 r r0 r1 => ⟨d.a, sp, rfl, h0, h1, _, rfl, rfl, by simp; omega, fun n2 hn2 cs hcs => ⟨d.a, z, rfl, z0, z1, _, rfl, rfl, by simp at hn2 ⊢; omega, fun n3 hn3 q1 b1 => ⟨d.a, z, rfl, z0, z1, _, rfl, rfl, by simp at hn2 hn3 ⊢; omega, fun n4 hn4 q2 b2 => ?_⟩⟩⟩⟩
  simp at hn2 hn3 hn4
  have rest : fr = true ∨ ¬ r = 0 → ∃ a many, [D.ref d.a, D.int 1000] = [.ref a, .int many] ∧ 0 < many ∧ many < 2 ^ 30 ∧ Dr ⟨some { d with n := n4 }, none⟩ a 1 fun m' => ∀ x : Int, 0 ≤ x → x < many → ∃ a many, [D.ref d.a, D.int 999] = [.ref a, .int many] ∧ 0 < many ∧ many < 2 ^ 30 ∧ Dr ⟨m'.dk, none⟩ a 1 fun m'' => ∀ y : Int, 0 ≤ y → y < many → CMulW x (1 + y) ∧ ((sSeq (sIf (dOrT (dTst (dNe (dVar 5) (dC (.int 1)))) (dTst (dVar 4))) (sRet (dTup (dCons (dVar 1) (dCons (dVar 6) (dCons (dVar 8) (dCons (dC .non) (dCons (dVar 7) (dCons (dTup (dCons (dCall sp_drawnL (dCons (dVar 0) (dCons (dVar 3) dNil))) (dCons (dCall sp_drawnL (dCons (dVar 0) (dCons (dVar 3) dNil))) dNil))) dNil)))))))) sNext)
  (sSeq (sPar 9 10 (dCons (dAdd (dC (.int 1)) (dCall sp_takeL (dCons (dVar 0) (dCons (dC (.int 9)) dNil)))) (dCons (dSub (dCall sp_takeL (dCons (dVar 0) (dCons (dC (.int 19)) dNil))) (dC (.int 9))) dNil)))
  (sSeq (sSet 11 (dBin oIx (dLst (dCons (dCall sp_wayL (dCons (dVar 9) (dCons (dVar 10) dNil))) (dCons (dCall sp_wayL (dCons (dVar 10) (dCons (dVar 9) dNil))) dNil))) (dCall sp_takeL (dCons (dVar 0) (dCons (dC (.int 2)) dNil)))))
  (sSeq (sSet 12 (dCall sp_spotL (dCons (dCall sp_spot_timesL (dCons (dTup (dCons (dTup (dCons (dIxN 0 (dVar 11)) (dCons (dC (.int 1)) dNil))) (dCons (dTup (dCons (dIxN 1 (dVar 11)) (dCons (dC (.int 1)) dNil))) dNil))) (dCons (dCall sp_drawnL (dCons (dVar 0) (dCons (dVar 3) dNil))) dNil))) dNil)))
  (sRet (dTup (dCons (dVar 1) (dCons (dVar 6) (dCons (dVar 8) (dCons (dVar 11) (dCons (dVar 7) (dCons (dVar 12) dNil))))))))))))) (Ret R) [some (.ref d.a), some (.str nm), some (.int sp), some (.int z), some (.bl fr), some (.int r), some (dCs cs), some (dS (q1, q2)), some (.int (1 + x * (1 + y))), none, none, none, none] ⟨m''.dk, none⟩ := by
    intro hfr
    refine ⟨_, _, rfl, by decide, by decide, _, rfl, rfl, by simp; omega, fun n5 hn5 x x0 x1 => ⟨_, _, rfl, by decide, by decide, _, rfl, rfl, by simp at hn5 ⊢; omega, fun n6 hn6 y y0 y1 => ⟨mulW (n := 12) (k := 12) (B.le (by omega) (by omega)) (B.le (by omega) (by omega)) (by decide), ?_⟩⟩⟩
    simp at hn5 hn6
    have free : (sp_drawnL [.ref d.a, .int z] ⟨some { d with n := n6 }, none⟩ fun d1 m1 => sp_drawnL [.ref d.a, .int z] ⟨m1.dk, none⟩ fun d2 m2 => R (.tup [.str nm, dCs cs, .int (1 + x * (1 + y)), .non, dS (q1, q2), .tup [d1, d2]]) ⟨m2.dk, none⟩) := by
      simp only [sp_drawnL]
      refine ⟨d.a, z, rfl, z0, z1, _, rfl, rfl, by simp; omega, fun n7 hn7 q3 b3 => ⟨d.a, z, rfl, z0, z1, _, rfl, rfl, by simp at hn7 ⊢; omega, fun n8 hn8 q4 b4 => ?_⟩⟩
      simp at hn7 hn8
      exact h n8 (by omega) ⟨⟨cs, (q1, q2), (q3, q4)⟩, nm, 1 + x * (1 + y), .non⟩ hcs ⟨b1, b2⟩ ⟨b3.mono (by decide), b4.mono (by decide)⟩
    by_cases e1 : r = 1
    · subst e1
      cases fr with
      | true =>
        simp only [sRet, sSeq, sIf, sNext, sSet, sPar, sAsg, sFor, sNever, sCont, dVar, dC, dNeg, dBin, oI, oI0, oEq, oIx, dTst, dAndT, dOrT, dNotT, dAndV, dOrV, dNotV, dIfE, dNil, dCons, dTup, dLst, dIxN, dCall, dCB, oAt, oAbs, gdName, gdNil, gdCons, gdTup, startD, tYesD, dIsi, List.map, List.length, List.replicate, Nat.sub_self, Nat.reduceSub, Nat.reduceAdd, List.reduceReplicate, List.append_nil, List.nil_append, List.cons_append, List.getElem?_cons_zero, List.getElem?_cons_succ, List.set_cons_zero, List.set_cons_succ, if_true, if_false, Bool.not_true, Bool.not_false, Bool.false_eq_true, decide_true, decide_false, true_and, and_true]
        exact free
      | false =>
        simp only [sp_wayL, sp_takeL, sRet, sSeq, sIf, sNext, sSet, sPar, sAsg, sFor, sNever, sCont, dVar, dC, dNeg, dBin, oI, oI0, oEq, oIx, dTst, dAndT, dOrT, dNotT, dAndV, dOrV, dNotV, dIfE, dNil, dCons, dTup, dLst, dIxN, dCall, dCB, oAt, oAbs, gdName, gdNil, gdCons, gdTup, startD, tYesD, dIsi, List.map, List.length, List.replicate, Nat.sub_self, Nat.reduceSub, Nat.reduceAdd, List.reduceReplicate, List.append_nil, List.nil_append, List.cons_append, List.getElem?_cons_zero, List.getElem?_cons_succ, List.set_cons_zero, List.set_cons_succ, if_true, if_false, Bool.not_true, Bool.not_false, Bool.false_eq_true, decide_true, decide_false, true_and, and_true]
        refine ⟨_, _, rfl, by decide, by decide, _, rfl, rfl, by simp; omega, fun n7 hn7 p p0 p1 => ⟨_, _, rfl, by decide, by decide, _, rfl, rfl, by simp at hn7 ⊢; omega, fun n8 hn8 q q0 q1' => ?_⟩⟩
        simp at hn7 hn8
        have bp : B 5 (1 + p) := B.le (by omega) (by omega)
        have bq : B 5 (q - 9) := B.le (by omega) (by omega)
        have hz : 1 + p ≠ 0 ∨ q - 9 ≠ 0 := .inl (by omega)
        refine ⟨_, _, rfl, hz, bp.mono (by decide), bq.mono (by decide), _, _, rfl, hz.symm, bq.mono (by decide), bp.mono (by decide), _, _, rfl, by decide, by decide, _, rfl, rfl, by simp; omega, fun n9 hn9 s s0 s1 => ?_⟩
        simp at hn9
        have fin : ∀ w : P2, BW 5 w → (sp_drawnL [.ref d.a, .int z] ⟨some { d with n := n9 }, none⟩ fun d1 m1 => sp_spot_timesL [.tup [.tup [.int w.1, .int 1], .tup [.int w.2, .int 1]], d1] ⟨m1.dk, none⟩ fun d2 m2 => sp_spotL [d2] ⟨m2.dk, none⟩ fun d3 m3 => R (.tup [.str nm, dCs cs, .int (1 + x * (1 + y)), dPr w, dS (q1, q2), d3]) ⟨m3.dk, none⟩) := by
          intro w bw
          simp only [sp_drawnL, sp_spot_timesL, sp_spotL]
          refine ⟨d.a, z, rfl, z0, z1, _, rfl, rfl, by simp; omega, fun n10 hn10 q3 b3 => ?_⟩
          simp at hn10
          have w1 : BW 5 (w.1, (1 : Int)) := ⟨bw.1, (show B 5 1 by unfold B; decide)⟩
          have w2 : BW 5 (w.2, (1 : Int)) := ⟨bw.2, (show B 5 1 by unfold B; decide)⟩
          refine ⟨((w.1, 1), (w.2, 1)), (q3.num, (q3.den : Int)), rfl, w1.mono (by decide), w2.mono (by decide), b3.bw.mono (by decide), (timesF (w.1, 1) (q3.num, (q3.den : Int)), timesF (w.2, 1) (q3.num, (q3.den : Int))), rfl, ?_, ?_, ?_, ?_, ?_⟩
          · exact Int.mul_pos Int.one_pos (den_pos q3)
          · exact Int.mul_pos Int.one_pos (den_pos q3)
          · exact ((BW_times w1 b3.bw).2).mono (by decide)
          · exact ((BW_times w2 b3.bw).2).mono (by decide)
          · have k1 := BW_times w1 b3.bw
            have k2 := BW_times w2 b3.bw
            have p1 : (timesF (w.1, (1 : Int)) (q3.num, (q3.den : Int))).2 ≠ 0 := Int.mul_ne_zero Int.one_ne_zero (den_ne q3)
            have p2 : (timesF (w.2, (1 : Int)) (q3.num, (q3.den : Int))).2 ≠ 0 := Int.mul_ne_zero Int.one_ne_zero (den_ne q3)
            exact h n10 (by omega) ⟨⟨cs, (q1, q2), (_, _)⟩, nm, 1 + x * (1 + y), dPr w⟩ hcs ⟨b1, b2⟩ ⟨(Bq_cut k1.1 k1.2 p1).mono (by decide), (Bq_cut k2.1 k2.2 p2).mono (by decide)⟩
        have c1 : BW 5 (wayM (1 + p) (q - 9)) := ⟨B_div bp (gcd_pos hz), B_div bq (gcd_pos hz)⟩
        have c2 : BW 5 (wayM (q - 9) (1 + p)) := ⟨B_div bq (gcd_pos hz.symm), B_div bp (gcd_pos hz.symm)⟩
        have hs : s = 0 ∨ s = 1 := by omega
        rcases hs with rfl | rfl
        · have e : ∀ u v : D, atI [u, v] 0 = some u := fun _ _ => rfl
          simp only [e, sRet, sSeq, sIf, sNext, sSet, sPar, sAsg, sFor, sNever, sCont, dVar, dC, dNeg, dBin, oI, oI0, oEq, oIx, dTst, dAndT, dOrT, dNotT, dAndV, dOrV, dNotV, dIfE, dNil, dCons, dTup, dLst, dIxN, dCall, dCB, oAt, oAbs, gdName, gdNil, gdCons, gdTup, startD, tYesD, dIsi, List.map, List.length, List.replicate, Nat.sub_self, Nat.reduceSub, Nat.reduceAdd, List.reduceReplicate, List.append_nil, List.nil_append, List.cons_append, List.getElem?_cons_zero, List.getElem?_cons_succ, List.set_cons_zero, List.set_cons_succ, if_true, if_false, Bool.not_true, Bool.not_false, Bool.false_eq_true, decide_true, decide_false, true_and, and_true]
          exact fin _ c1
        · have e : ∀ u v : D, atI [u, v] 1 = some v := fun _ _ => rfl
          simp only [e, sRet, sSeq, sIf, sNext, sSet, sPar, sAsg, sFor, sNever, sCont, dVar, dC, dNeg, dBin, oI, oI0, oEq, oIx, dTst, dAndT, dOrT, dNotT, dAndV, dOrV, dNotV, dIfE, dNil, dCons, dTup, dLst, dIxN, dCall, dCB, oAt, oAbs, gdName, gdNil, gdCons, gdTup, startD, tYesD, dIsi, List.map, List.length, List.replicate, Nat.sub_self, Nat.reduceSub, Nat.reduceAdd, List.reduceReplicate, List.append_nil, List.nil_append, List.cons_append, List.getElem?_cons_zero, List.getElem?_cons_succ, List.set_cons_zero, List.set_cons_succ, if_true, if_false, Bool.not_true, Bool.not_false, Bool.false_eq_true, decide_true, decide_false, true_and, and_true]
          exact fin _ c2
    · simp only [e1, sRet, sSeq, sIf, sNext, sSet, sPar, sAsg, sFor, sNever, sCont, dVar, dC, dNeg, dBin, oI, oI0, oEq, oIx, dTst, dAndT, dOrT, dNotT, dAndV, dOrV, dNotV, dIfE, dNil, dCons, dTup, dLst, dIxN, dCall, dCB, oAt, oAbs, gdName, gdNil, gdCons, gdTup, startD, tYesD, dIsi, List.map, List.length, List.replicate, Nat.sub_self, Nat.reduceSub, Nat.reduceAdd, List.reduceReplicate, List.append_nil, List.nil_append, List.cons_append, List.getElem?_cons_zero, List.getElem?_cons_succ, List.set_cons_zero, List.set_cons_succ, if_true, if_false, Bool.not_true, Bool.not_false, Bool.false_eq_true, decide_true, decide_false, true_and, and_true]
      exact free
  by_cases e0 : r = 0
  · cases fr with
    | true =>
      simp only [e0, sRet, sSeq, sIf, sNext, sSet, sPar, sAsg, sFor, sNever, sCont, dVar, dC, dNeg, dBin, oI, oI0, oEq, oIx, dTst, dAndT, dOrT, dNotT, dAndV, dOrV, dNotV, dIfE, dNil, dCons, dTup, dLst, dIxN, dCall, dCB, oAt, oAbs, gdName, gdNil, gdCons, gdTup, startD, tYesD, dIsi, List.map, List.length, List.replicate, Nat.sub_self, Nat.reduceSub, Nat.reduceAdd, List.reduceReplicate, List.append_nil, List.nil_append, List.cons_append, List.getElem?_cons_zero, List.getElem?_cons_succ, List.set_cons_zero, List.set_cons_succ, if_true, if_false, Bool.not_true, Bool.not_false, Bool.false_eq_true, decide_true, decide_false, true_and, and_true]
      have := rest (.inl rfl)
      simp only [e0, sRet, sSeq, sIf, sNext, sSet, sPar, sAsg, sFor, sNever, sCont, dVar, dC, dNeg, dBin, oI, oI0, oEq, oIx, dTst, dAndT, dOrT, dNotT, dAndV, dOrV, dNotV, dIfE, dNil, dCons, dTup, dLst, dIxN, dCall, dCB, oAt, oAbs, gdName, gdNil, gdCons, gdTup, startD, tYesD, dIsi, List.map, List.length, List.replicate, Nat.sub_self, Nat.reduceSub, Nat.reduceAdd, List.reduceReplicate, List.append_nil, List.nil_append, List.cons_append, List.getElem?_cons_zero, List.getElem?_cons_succ, List.set_cons_zero, List.set_cons_succ, if_true, if_false, Bool.not_true, Bool.not_false, Bool.false_eq_true, decide_true, decide_false, true_and, and_true] at this
      exact this
    | false =>
      simp only [e0, sRet, sSeq, sIf, sNext, sSet, sPar, sAsg, sFor, sNever, sCont, dVar, dC, dNeg, dBin, oI, oI0, oEq, oIx, dTst, dAndT, dOrT, dNotT, dAndV, dOrV, dNotV, dIfE, dNil, dCons, dTup, dLst, dIxN, dCall, dCB, oAt, oAbs, gdName, gdNil, gdCons, gdTup, startD, tYesD, dIsi, List.map, List.length, List.replicate, Nat.sub_self, Nat.reduceSub, Nat.reduceAdd, List.reduceReplicate, List.append_nil, List.nil_append, List.cons_append, List.getElem?_cons_zero, List.getElem?_cons_succ, List.set_cons_zero, List.set_cons_succ, if_true, if_false, Bool.not_true, Bool.not_false, Bool.false_eq_true, decide_true, decide_false, true_and, and_true]
      exact h n4 (by omega) ⟨⟨cs, (q1, q2), (0, 0)⟩, nm, 0, .non⟩ hcs ⟨b1, b2⟩ (by show Bq 210 0 ∧ Bq 210 0; unfold Bq B; decide)
  · have := rest (.inr e0)
    simp only [e0, sRet, sSeq, sIf, sNext, sSet, sPar, sAsg, sFor, sNever, sCont, dVar, dC, dNeg, dBin, oI, oI0, oEq, oIx, dTst, dAndT, dOrT, dNotT, dAndV, dOrV, dNotV, dIfE, dNil, dCons, dTup, dLst, dIxN, dCall, dCB, oAt, oAbs, gdName, gdNil, gdCons, gdTup, startD, tYesD, dIsi, List.map, List.length, List.replicate, Nat.sub_self, Nat.reduceSub, Nat.reduceAdd, List.reduceReplicate, List.append_nil, List.nil_append, List.cons_append, List.getElem?_cons_zero, List.getElem?_cons_succ, List.set_cons_zero, List.set_cons_succ, if_true, if_false, Bool.not_true, Bool.not_false, Bool.false_eq_true, decide_true, decide_false, true_and, and_true] at this ⊢
    exact this
theorem letters_at {i : Int} (h0 : 0 ≤ i) (h1 : i < 26) : (Str.ofString "abcdefghijklmnopqrstuvwxyz").length ≤ sizeLine ∧ ∃ c, atI (Str.ofString "abcdefghijklmnopqrstuvwxyz").cps.toList i = some c := by
  have e : (Str.ofString "abcdefghijklmnopqrstuvwxyz").cps.toList.length = 26 := by decide +kernel
  obtain ⟨v, _, hv⟩ := atI_ex (xs := (Str.ofString "abcdefghijklmnopqrstuvwxyz").cps.toList) h0 (by rw [e]; exact h1)
  exact ⟨line100 (by decide +kernel), v, hv⟩
theorem len_one (c : Nat) : (⟨#[c]⟩ : Str).length = 1 := rfl
theorem sum_ones : ∀ ys : List Str, (∀ y ∈ ys, y.length = 1) → (ys.map (·.length)).sum = ys.length
  | [], _ => rfl
  | y :: ys, h => by
    have := sum_ones ys fun z q => h z (List.mem_cons_of_mem _ q)
    have := h y List.mem_cons_self
    simp at *
    omega
theorem rd_namesL : Rd 1 7 sp_namesL t_namesL := by
  rintro _ ⟨dk, ow⟩ R - ho ⟨a, rfl, d, rfl, rfl, hb, h⟩
  cases ho
  simp only [t_namesL, sp_takeL, dJoin, iRng, dLc, sRet, sSeq, sIf, sNext, sSet, sPar, sAsg, sFor, sNever, sCont, dVar, dC, dNeg, dBin, oI, oI0, oEq, oIx, dTst, dAndT, dOrT, dNotT, dAndV, dOrV, dNotV, dIfE, dNil, dCons, dTup, dLst, dIxN, dCall, dCB, oAt, oAbs, gdName, gdNil, gdCons, gdTup, startD, tYesD, dIsi, List.map, List.length, List.replicate, Nat.sub_self, Nat.reduceSub, Nat.reduceAdd, List.reduceReplicate, List.append_nil, List.nil_append, List.cons_append, List.getElem?_cons_zero, List.getElem?_cons_succ, List.set_cons_zero, List.set_cons_succ, if_true, if_false, Bool.not_true, Bool.not_false, Bool.false_eq_true, decide_true, decide_false, true_and, and_true]
  refine ⟨⟨_, rfl⟩, _, _, rfl, by decide, by decide, d, rfl, rfl, by omega, fun n1 hn1 r r0 r1 => ?_⟩
  have hr : ∃ k : Nat, k ≤ 11 ∧ atI [D.int 0, D.int 1, D.int 3, D.int 11] r = some (.int (k : Int)) := by
    have : r = 0 ∨ r = 1 ∨ r = 2 ∨ r = 3 := by omega
    rcases this with rfl | rfl | rfl | rfl
    · exact ⟨0, by decide, rfl⟩
    · exact ⟨1, by decide, rfl⟩
    · exact ⟨3, by decide, rfl⟩
    · exact ⟨11, by decide, rfl⟩
  obtain ⟨k, hk, er⟩ := hr
  simp only [er, sRet, sSeq, sIf, sNext, sSet, sPar, sAsg, sFor, sNever, sCont, dVar, dC, dNeg, dBin, oI, oI0, oEq, oIx, dTst, dAndT, dOrT, dNotT, dAndV, dOrV, dNotV, dIfE, dNil, dCons, dTup, dLst, dIxN, dCall, dCB, oAt, oAbs, gdName, gdNil, gdCons, gdTup, startD, tYesD, dIsi, List.map, List.length, List.replicate, Nat.sub_self, Nat.reduceSub, Nat.reduceAdd, List.reduceReplicate, List.append_nil, List.nil_append, List.cons_append, List.getElem?_cons_zero, List.getElem?_cons_succ, List.set_cons_zero, List.set_cons_succ, if_true, if_false, Bool.not_true, Bool.not_false, Bool.false_eq_true, decide_true, decide_false, true_and, and_true]
  refine ⟨⟨by omega, by omega⟩, ?_⟩
  refine lc_rule (fun items acc dk' => ∃ (ys : List Str) (n' : Nat), acc = ys.map D.str ∧ ys.length + items.length = k ∧ (∀ y ∈ ys, y.length = 1) ∧ n' + items.length ≤ d.n + 12 ∧ dk' = some { d with n := n' }) ?_ ?_ _ _ _ ⟨[], n1, rfl, by simp [intsTo], by simp, by simp [intsTo]; omega, rfl⟩
  · rintro x xs _ _ J ⟨ys, n', rfl, hl, hy, hb', rfl⟩ hJ
    simp only [wipeD, sRet, sSeq, sIf, sNext, sSet, sPar, sAsg, sFor, sNever, sCont, dVar, dC, dNeg, dBin, oI, oI0, oEq, oIx, dTst, dAndT, dOrT, dNotT, dAndV, dOrV, dNotV, dIfE, dNil, dCons, dTup, dLst, dIxN, dCall, dCB, oAt, oAbs, gdName, gdNil, gdCons, gdTup, startD, tYesD, dIsi, List.map, List.length, List.replicate, Nat.sub_self, Nat.reduceSub, Nat.reduceAdd, List.reduceReplicate, List.append_nil, List.nil_append, List.cons_append, List.getElem?_cons_zero, List.getElem?_cons_succ, List.set_cons_zero, List.set_cons_succ, if_true, if_false, Bool.not_true, Bool.not_false, Bool.false_eq_true, decide_true, decide_false, true_and, and_true]
    refine ⟨_, _, rfl, by decide, by decide, _, rfl, rfl, by simp at hb' ⊢; omega, fun n2 hn2 s s0 s1 => ?_⟩
    obtain ⟨l1, c, ec⟩ := letters_at s0 s1
    simp only [ec, sRet, sSeq, sIf, sNext, sSet, sPar, sAsg, sFor, sNever, sCont, dVar, dC, dNeg, dBin, oI, oI0, oEq, oIx, dTst, dAndT, dOrT, dNotT, dAndV, dOrV, dNotV, dIfE, dNil, dCons, dTup, dLst, dIxN, dCall, dCB, oAt, oAbs, gdName, gdNil, gdCons, gdTup, startD, tYesD, dIsi, List.map, List.length, List.replicate, Nat.sub_self, Nat.reduceSub, Nat.reduceAdd, List.reduceReplicate, List.append_nil, List.nil_append, List.cons_append, List.getElem?_cons_zero, List.getElem?_cons_succ, List.set_cons_zero, List.set_cons_succ, if_true, if_false, Bool.not_true, Bool.not_false, Bool.false_eq_true, decide_true, decide_false, true_and, and_true]
    refine ⟨l1, by simp at hl ⊢; omega, hJ _ _ ⟨ys ++ [⟨#[c]⟩], n2, by simp, by simp at hl ⊢; omega, fun y hy' => ?_, by simp at hb' hn2; omega, rfl⟩⟩
    rcases List.mem_append.mp hy' with q | q
    · exact hy y q
    · rw [List.mem_singleton.mp q]; rfl
  · rintro _ _ ⟨ys, n2, rfl, hl, hy, hb', rfl⟩
    have hl : ys.length = k := hl
    have hb' : n2 ≤ d.n + 12 := hb'
    have z0 : (Str.ofString "").length = 0 := by decide
    have hsum := sum_ones ys hy
    refine ⟨_, ys, rfl, rfl, by rw [hsum, z0]; omega, ?_⟩
    have hst : (Txt.join (Str.ofString "") ys).length = k := by rw [PySem.W.KT.join_ones ys hy, hl]
    generalize Txt.join (Str.ofString "") ys = stem at hst ⊢
    simp only [oLen, dSl, dNoPart, dPart, oPlus, sRet, sSeq, sIf, sNext, sSet, sPar, sAsg, sFor, sNever, sCont, dVar, dC, dNeg, dBin, oI, oI0, oEq, oIx, dTst, dAndT, dOrT, dNotT, dAndV, dOrV, dNotV, dIfE, dNil, dCons, dTup, dLst, dIxN, dCall, dCB, oAt, oAbs, gdName, gdNil, gdCons, gdTup, startD, tYesD, dIsi, List.map, List.length, List.replicate, Nat.sub_self, Nat.reduceSub, Nat.reduceAdd, List.reduceReplicate, List.append_nil, List.nil_append, List.cons_append, List.getElem?_cons_zero, List.getElem?_cons_succ, List.set_cons_zero, List.set_cons_succ, if_true, if_false, Bool.not_true, Bool.not_false, Bool.false_eq_true, decide_true, decide_false, true_and, and_true]
    refine ⟨line100 (by omega), _, _, rfl, by omega, by omega, _, rfl, rfl, by simp; omega, fun n3 hn3 p p0 p1 => ⟨_, _, rfl, by decide, by decide, _, rfl, rfl, by simp at hn3 ⊢; omega, fun n4 hn4 u u0 u1 => ⟨_, _, rfl, by decide, by decide, _, rfl, rfl, by simp at hn3 hn4 ⊢; omega, fun n5 hn5 v v0 v1 => ⟨by decide, ?_⟩⟩⟩⟩
    simp at hn3 hn4 hn5
    obtain ⟨l1, c, ec⟩ := letters_at u0 u1
    obtain ⟨_, c', ec'⟩ := letters_at (i := (u + 1 + v) % 26) (by omega) (by omega)
    have q1 := cutS_length stem none (some p)
    have q2 := cutS_length stem (some p) none
    simp only [ec, ec', sRet, sSeq, sIf, sNext, sSet, sPar, sAsg, sFor, sNever, sCont, dVar, dC, dNeg, dBin, oI, oI0, oEq, oIx, dTst, dAndT, dOrT, dNotT, dAndV, dOrV, dNotV, dIfE, dNil, dCons, dTup, dLst, dIxN, dCall, dCB, oAt, oAbs, gdName, gdNil, gdCons, gdTup, startD, tYesD, dIsi, List.map, List.length, List.replicate, Nat.sub_self, Nat.reduceSub, Nat.reduceAdd, List.reduceReplicate, List.append_nil, List.nil_append, List.cons_append, List.getElem?_cons_zero, List.getElem?_cons_succ, List.set_cons_zero, List.set_cons_succ, if_true, if_false, Bool.not_true, Bool.not_false, Bool.false_eq_true, decide_true, decide_false, true_and, and_true]
    have a1 : ∀ c : Nat, (cutS stem none (some p) ++ (⟨#[c]⟩ : Str)).length ≤ 12 := fun c => by
      rw [Str.length_append, len_one]
      omega
    refine ⟨line100 (by omega), l1, by rw [len_one]; omega, line100 (by omega), by have := a1 c; omega, line100 (by omega), l1, by rw [len_one]; omega, line100 (by omega), by have := a1 c'; omega, h n5 (by omega) _ _⟩
end K23
/-! the readings keep the promises: the pair, the papers -/
namespace K23
open PySem PySem.Spec PyProof.Rows L2
/-- a fraction's sizes -/
structure Fb (n k : Nat) (x : P2) : Prop where
  t : B n x.1
  b : B k x.2
  p : 0 < x.2
theorem Fb.mono {n k n' k' : Nat} {x : P2} (h : Fb n k x) (e : n ≤ n') (e' : k ≤ k') : Fb n' k' x := ⟨h.t.mono e, h.b.mono e', h.p⟩
theorem Fb.plus {n k n' k' : Nat} {x y : P2} (h : Fb n k x) (e : Fb n' k' y) : Fb (max (n + k') (n' + k) + 1) (k + k') (plusF x y) := ⟨(h.t.mul e.b).add (e.t.mul h.b), h.b.mul e.b, Int.mul_pos h.p e.p⟩
theorem Fb.times {n k n' k' : Nat} {x y : P2} (h : Fb n k x) (e : Fb n' k' y) : Fb (n + n') (k + k') (timesF x y) := ⟨h.t.mul e.t, h.b.mul e.b, Int.mul_pos h.p e.p⟩
theorem Fb.bw {n k m : Nat} {x : P2} (h : Fb n k x) (e : n ≤ m) (e' : k ≤ m) : BW m x := ⟨h.t.mono e, h.b.mono e'⟩
theorem Fb.bq {n k m : Nat} {x : P2} (h : Fb n k x) (e : n ≤ m) (e' : k ≤ m) : Bq m (Rat.divInt x.1 x.2) := Bq_cut (h.t.mono e) (h.b.mono e') (by have := h.p; omega)
theorem Bq.fb {n : Nat} {q : Rat} (h : Bq n q) : Fb n n (q.num, (q.den : Int)) := ⟨h.1, h.den, den_pos q⟩
theorem Fb.int {n : Nat} {i : Int} (h : B n i) : Fb n 1 (i, 1) := ⟨h, (show B 1 1 by unfold B; decide), Int.one_pos⟩
abbrev FF (n k : Nat) (x : P2 × P2) : Prop := Fb n k x.1 ∧ Fb n k x.2
theorem rd_pairTail : ∀ (dk : Dk) (R : D → M → Prop) (x y : Bd) (place : Q2) (spot2 side : P2 × P2) (wh : Rat) (aim : Int) (o1 o3 o4 o5 o9 o10 o11 o13 o14 o18 o19 : Option D),
    dk.n + 5 ≤ 2 ^ 30 → Good x.o.cs → Good y.o.cs → Bs 200 x.o.place → Bs 210 x.o.speed → Bs 210 y.o.speed → Bs 231 place → FF 227 204 spot2 → FF 22 1 side → 0 < wh → Bq 3 wh →
    (∀ n', n' ≤ dk.n + 5 → ∀ (x y : Bd), PairOk x.o y.o → R (.tup [dB x, dB y, dQ wh]) ⟨some { dk with n := n' }, none⟩) →
    ((sSeq (sIf (dTst (dEq (dVar 2) (dC (.int 1)))) (sSet 17 (dIxN 5 (dVar 6))) sNext)
  (sSeq (sIf (dTst (dEq (dVar 2) (dC (.int 2)))) (sSet 17 (dCall sp_spotL (dCons (dCall sp_spot_plusL (dCons (dIxN 5 (dVar 6)) (dCons (dCall sp_spot_timesL (dCons (dVar 12) (dCons (dTup (dCons (dSub (dCall sp_takeL (dCons (dVar 0) (dCons (dC (.int 9)) dNil))) (dC (.int 4))) (dCons (dC (.int 3)) dNil))) dNil))) dNil))) dNil))) sNext)
  (sSeq (sIf (dTst (dGt (dVar 2) (dC (.int 2)))) (sSeq (sSet 19 (dCall sp_spot_plusL (dCons (dVar 15) (dCons (dCall sp_spot_timesL (dCons (dVar 16) (dCons (dTup (dCons (dNeg (dC (.int 1))) (dCons (dC (.int 1)) dNil))) dNil))) dNil))))
  (sSet 17 (dCall sp_spotL (dCons (dCall sp_spot_plusL (dCons (dIxN 5 (dVar 6)) (dCons (dCall sp_spot_timesL (dCons (dVar 19) (dCons (dTup (dCons (dIxN 1 (dVar 8)) (dCons (dIxN 0 (dVar 8)) dNil))) dNil))) dNil))) dNil)))) sNext)
  (sRet (dTup (dCons (dVar 6) (dCons (dBin oPlus (dSl (dVar 7) dNoPart (dPart (dC (.int 4)))) (dTup (dCons (dVar 16) (dCons (dVar 17) dNil)))) (dCons (dVar 8) dNil))))))))) (Ret R) [some (.ref dk.a), o1, some (.int aim), o3, o4, o5, some (dB x), some (dB y), some (dQ wh), o9, o10, o11, some (dFr side), o13, o14, some (dFr spot2), some (dS place), some (dS y.o.speed), o18, o19] ⟨some dk, none⟩ := by
  intro dk R x y place spot2 side wh aim o1 o3 o4 o5 o9 o10 o11 o13 o14 o18 o19 hn gx gy px sx sy hp hs2 hsd w0 wB h
  have fin : ∀ (speed : Q2) (n' : Nat), Bs 674 speed → n' ≤ dk.n + 5 → ¬ (HT.sIx 6 0 (none : Option Int) = 0 ∧ HT.sIx 6 6 (some (4 : Int)) = 6) ∧ [D.str y.name, dCs y.o.cs, .int y.mass, y.rail] ≠ [] ∧ [dS place, dS speed] ≠ [] ∧ 4 + 2 ≤ 100000 ∧ R (.tup [dB x, dB ⟨⟨y.o.cs, place, speed⟩, y.name, y.mass, y.rail⟩, dQ wh]) ⟨some { dk with n := n' }, none⟩ := fun speed n' hs hn' =>
    ⟨by decide, List.cons_ne_nil _ _, List.cons_ne_nil _ _, by decide, h n' hn' x ⟨⟨y.o.cs, place, speed⟩, y.name, y.mass, y.rail⟩ ⟨gx, gy, ⟨200, 231, px, hp, by decide⟩, ⟨210, 674, sx, hs, by decide⟩⟩⟩
  have ecut : ∀ a b c d e f : D, cutD [a, b, c, d, e, f] none (some 4) = [a, b, c, d] := fun _ _ _ _ _ _ => rfl
  have fin' : ∀ (speed : Q2), Bs 674 speed → _ := fun speed hs => fin speed dk.n hs (by omega)
  have x5 : Fb 210 210 (x.o.speed.1.num, (x.o.speed.1.den : Int)) ∧ Fb 210 210 (x.o.speed.2.num, (x.o.speed.2.den : Int)) := ⟨sx.1.fb, sx.2.fb⟩
  by_cases a1 : aim = 1
  · subst a1
    have e2 : ¬ ((1 : Int) = 2) := by decide
    have e3 : ¬ ((2 : Int) < 1) := by decide
    simp only [e2, e3, dSl, dNoPart, dPart, ecut, oPlus, sRet, sSeq, sIf, sNext, sSet, sPar, sAsg, sFor, sNever, sCont, dVar, dC, dNeg, dBin, oI, oI0, oEq, oIx, dTst, dAndT, dOrT, dNotT, dAndV, dOrV, dNotV, dIfE, dNil, dCons, dTup, dLst, dIxN, dCall, dCB, oAt, oAbs, gdName, gdNil, gdCons, gdTup, startD, tYesD, dIsi, List.map, List.length, List.replicate, Nat.sub_self, Nat.reduceSub, Nat.reduceAdd, List.reduceReplicate, List.append_nil, List.nil_append, List.cons_append, List.getElem?_cons_zero, List.getElem?_cons_succ, List.set_cons_zero, List.set_cons_succ, if_true, if_false, Bool.not_true, Bool.not_false, Bool.false_eq_true, decide_true, decide_false, true_and, and_true]
    exact fin' _ (sx.mono (by decide))
  · by_cases a2 : aim = 2
    · subst a2
      have e2 : ¬ ((2 : Int) = 1) := by decide
      have e3 : ¬ ((2 : Int) < 2) := by decide
      simp only [e2, e3, dSl, dNoPart, dPart, ecut, oPlus, sp_takeL, sp_spot_timesL, sp_spot_plusL, sp_spotL, sRet, sSeq, sIf, sNext, sSet, sPar, sAsg, sFor, sNever, sCont, dVar, dC, dNeg, dBin, oI, oI0, oEq, oIx, dTst, dAndT, dOrT, dNotT, dAndV, dOrV, dNotV, dIfE, dNil, dCons, dTup, dLst, dIxN, dCall, dCB, oAt, oAbs, gdName, gdNil, gdCons, gdTup, startD, tYesD, dIsi, List.map, List.length, List.replicate, Nat.sub_self, Nat.reduceSub, Nat.reduceAdd, List.reduceReplicate, List.append_nil, List.nil_append, List.cons_append, List.getElem?_cons_zero, List.getElem?_cons_succ, List.set_cons_zero, List.set_cons_succ, if_true, if_false, Bool.not_true, Bool.not_false, Bool.false_eq_true, decide_true, decide_false, true_and, and_true]
      refine ⟨_, _, rfl, by decide, by decide, dk, rfl, rfl, by omega, fun n1 hn1 r r0 r1 => ?_⟩
      have f4 : Fb 4 2 (r - 4, (3 : Int)) := ⟨B.le (by show _ < r - 4; omega) (by show r - 4 < _; omega), (show B 2 3 by unfold B; decide), (by show (0 : Int) < 3; decide)⟩
      have t1 := hsd.1.times f4
      have t2 := hsd.2.times f4
      have s1 := x5.1.plus t1
      have s2 := x5.2.plus t2
      refine ⟨side, (r - 4, 3), rfl, hsd.1.bw (by decide) (by decide), hsd.2.bw (by decide) (by decide), f4.bw (by decide) (by decide), ((x.o.speed.1.num, (x.o.speed.1.den : Int)), (x.o.speed.2.num, (x.o.speed.2.den : Int))), (timesF side.1 (r - 4, 3), timesF side.2 (r - 4, 3)), rfl, x5.1.bw (by decide) (by decide), x5.2.bw (by decide) (by decide), t1.bw (by decide) (by decide), t2.bw (by decide) (by decide), (plusF (x.o.speed.1.num, (x.o.speed.1.den : Int)) (timesF side.1 (r - 4, 3)), plusF (x.o.speed.2.num, (x.o.speed.2.den : Int)) (timesF side.2 (r - 4, 3))), rfl, s1.p, s2.p, s1.b.mono (by decide), s2.b.mono (by decide), ?_⟩
      exact fin (_, _) n1 ⟨s1.bq (by decide) (by decide), s2.bq (by decide) (by decide)⟩ (by omega)
    · by_cases a3 : 2 < aim
      · simp only [a1, a2, a3, dSl, dNoPart, dPart, ecut, oPlus, sp_takeL, sp_spot_timesL, sp_spot_plusL, sp_spotL, sRet, sSeq, sIf, sNext, sSet, sPar, sAsg, sFor, sNever, sCont, dVar, dC, dNeg, dBin, oI, oI0, oEq, oIx, dTst, dAndT, dOrT, dNotT, dAndV, dOrV, dNotV, dIfE, dNil, dCons, dTup, dLst, dIxN, dCall, dCB, oAt, oAbs, gdName, gdNil, gdCons, gdTup, startD, tYesD, dIsi, List.map, List.length, List.replicate, Nat.sub_self, Nat.reduceSub, Nat.reduceAdd, List.reduceReplicate, List.append_nil, List.nil_append, List.cons_append, List.getElem?_cons_zero, List.getElem?_cons_succ, List.set_cons_zero, List.set_cons_succ, if_true, if_false, Bool.not_true, Bool.not_false, Bool.false_eq_true, decide_true, decide_false, true_and, and_true]
        have m1 : Fb 1 1 ((-1 : Int), (1 : Int)) := ⟨(show B 1 (-1) by unfold B; decide), (show B 1 1 by unfold B; decide), (by show (0 : Int) < 1; decide)⟩
        have wf : Fb 3 3 ((wh.den : Int), wh.num) := ⟨wB.den, wB.1, (num_pos _).mpr w0⟩
        let F (q : Rat) : P2 := (q.num, (q.den : Int))
        have p5 : Fb 231 231 (F place.1) ∧ Fb 231 231 (F place.2) := ⟨hp.1.fb, hp.2.fb⟩
        have n1 := p5.1.times m1
        have n2 := p5.2.times m1
        have t1 := (hs2.1.plus n1)
        have t2 := (hs2.2.plus n2)
        have v1 := t1.times wf
        have v2 := t2.times wf
        have s1 := x5.1.plus v1
        have s2 := x5.2.plus v2
        refine ⟨(F place.1, F place.2), (-1, 1), rfl, p5.1.bw (by decide) (by decide), p5.2.bw (by decide) (by decide), m1.bw (by decide) (by decide), spot2, (timesF (F place.1) (-1, 1), timesF (F place.2) (-1, 1)), rfl, hs2.1.bw (by decide) (by decide), hs2.2.bw (by decide) (by decide), n1.bw (by decide) (by decide), n2.bw (by decide) (by decide), ?_⟩
        refine ⟨(plusF spot2.1 (timesF (F place.1) (-1, 1)), plusF spot2.2 (timesF (F place.2) (-1, 1))), (wh.den, wh.num), rfl, t1.bw (by decide) (by decide), t2.bw (by decide) (by decide), wf.bw (by decide) (by decide), ?_⟩
        refine ⟨(F x.o.speed.1, F x.o.speed.2), (timesF (plusF spot2.1 (timesF (F place.1) (-1, 1))) (wh.den, wh.num), timesF (plusF spot2.2 (timesF (F place.2) (-1, 1))) (wh.den, wh.num)), rfl, x5.1.bw (by decide) (by decide), x5.2.bw (by decide) (by decide), v1.bw (by decide) (by decide), v2.bw (by decide) (by decide), ?_⟩
        refine ⟨(plusF (F x.o.speed.1) (timesF (plusF spot2.1 (timesF (F place.1) (-1, 1))) (wh.den, wh.num)), plusF (F x.o.speed.2) (timesF (plusF spot2.2 (timesF (F place.2) (-1, 1))) (wh.den, wh.num))), rfl, s1.p, s2.p, s1.b.mono (by decide), s2.b.mono (by decide), ?_⟩
        exact fin' (_, _) ⟨s1.bq (by decide) (by decide), s2.bq (by decide) (by decide)⟩
      · simp only [a1, a2, a3, dSl, dNoPart, dPart, ecut, oPlus, sRet, sSeq, sIf, sNext, sSet, sPar, sAsg, sFor, sNever, sCont, dVar, dC, dNeg, dBin, oI, oI0, oEq, oIx, dTst, dAndT, dOrT, dNotT, dAndV, dOrV, dNotV, dIfE, dNil, dCons, dTup, dLst, dIxN, dCall, dCB, oAt, oAbs, gdName, gdNil, gdCons, gdTup, startD, tYesD, dIsi, List.map, List.length, List.replicate, Nat.sub_self, Nat.reduceSub, Nat.reduceAdd, List.reduceReplicate, List.append_nil, List.nil_append, List.cons_append, List.getElem?_cons_zero, List.getElem?_cons_succ, List.set_cons_zero, List.set_cons_succ, if_true, if_false, Bool.not_true, Bool.not_false, Bool.false_eq_true, decide_true, decide_false, true_and, and_true]
        exact fin' _ (sy.mono (by decide))
def t_pairTail : DTS := (sSeq (sIf (dTst (dEq (dVar 2) (dC (.int 1)))) (sSet 17 (dIxN 5 (dVar 6))) sNext)
  (sSeq (sIf (dTst (dEq (dVar 2) (dC (.int 2)))) (sSet 17 (dCall sp_spotL (dCons (dCall sp_spot_plusL (dCons (dIxN 5 (dVar 6)) (dCons (dCall sp_spot_timesL (dCons (dVar 12) (dCons (dTup (dCons (dSub (dCall sp_takeL (dCons (dVar 0) (dCons (dC (.int 9)) dNil))) (dC (.int 4))) (dCons (dC (.int 3)) dNil))) dNil))) dNil))) dNil))) sNext)
  (sSeq (sIf (dTst (dGt (dVar 2) (dC (.int 2)))) (sSeq (sSet 19 (dCall sp_spot_plusL (dCons (dVar 15) (dCons (dCall sp_spot_timesL (dCons (dVar 16) (dCons (dTup (dCons (dNeg (dC (.int 1))) (dCons (dC (.int 1)) dNil))) dNil))) dNil))))
  (sSet 17 (dCall sp_spotL (dCons (dCall sp_spot_plusL (dCons (dIxN 5 (dVar 6)) (dCons (dCall sp_spot_timesL (dCons (dVar 19) (dCons (dTup (dCons (dIxN 1 (dVar 8)) (dCons (dIxN 0 (dVar 8)) dNil))) dNil))) dNil))) dNil)))) sNext)
  (sRet (dTup (dCons (dVar 6) (dCons (dBin oPlus (dSl (dVar 7) dNoPart (dPart (dC (.int 4)))) (dTup (dCons (dVar 16) (dCons (dVar 17) dNil)))) (dCons (dVar 8) dNil))))))))
theorem pair_split : t_pairL = (sSeq (sPar 1 2 (dCons (dCall sp_takeL (dCons (dVar 0) (dCons (dC (.int 4)) dNil))) (dCons (dCall sp_takeL (dCons (dVar 0) (dCons (dC (.int 5)) dNil))) dNil)))
  (sSeq (sSet 3 (dBin oIx (dLst (dCons (dC (.int 0)) (dCons (dC (.int 0)) (dCons (dC (.int 0)) (dCons (dC (.int 1)) (dCons (dC (.int 2)) dNil)))))) (dCall sp_takeL (dCons (dVar 0) (dCons (dC (.int 5)) dNil)))))
  (sSeq (sSet 4 (dBin oIx (dLst (dCons (dC (.int 5)) (dCons (dC (.int 5)) (dCons (dC (.int 30)) (dCons (dC (.int 1000000)) dNil))))) (dCall sp_takeL (dCons (dVar 0) (dCons (dC (.int 4)) dNil)))))
  (sSeq (sSet 5 (dCall sp_namesL (dCons (dVar 0) dNil)))
  (sSeq (sSet 6 (dCall sp_rowL (dCons (dVar 0) (dCons (dIxN 0 (dVar 5)) (dCons (dVar 4) (dCons (dVar 3) (dCons (dC (.bl false)) dNil)))))))
  (sSeq (sSet 7 (dCall sp_rowL (dCons (dVar 0) (dCons (dIxN 1 (dVar 5)) (dCons (dVar 4) (dCons (dVar 3) (dCons (dGt (dVar 2) (dC (.int 0))) dNil)))))))
  (sSeq (sSet 8 (dCall sp_shareL (dCons (dAdd (dC (.int 1)) (dCall sp_takeL (dCons (dVar 0) (dCons (dC (.int 6)) dNil)))) (dCons (dAdd (dC (.int 1)) (dCall sp_takeL (dCons (dVar 0) (dCons (dC (.int 3)) dNil)))) dNil))))
  (sSeq (sSet 9 (dCall sp_takeL (dCons (dVar 0) (dCons (dCB oLen (dCons (dIxN 1 (dVar 6)) dNil)) dNil))))
  (sSeq (sPar 10 11 (dCons (dBin oIx (dIxN 1 (dVar 6)) (dVar 9)) (dCons (dBin oIx (dIxN 1 (dVar 6)) (dMod (dAdd (dVar 9) (dC (.int 1))) (dCB oLen (dCons (dIxN 1 (dVar 6)) dNil)))) dNil)))
  (sSeq (sSet 12 (dTup (dCons (dTup (dCons (dSub (dIxN 0 (dVar 11)) (dIxN 0 (dVar 10))) (dCons (dC (.int 1)) dNil))) (dCons (dTup (dCons (dSub (dIxN 1 (dVar 11)) (dIxN 1 (dVar 10))) (dCons (dC (.int 1)) dNil))) dNil))))
  (sSeq (sSet 13 (dBin oIx (dIxN 1 (dVar 7)) (dCall sp_takeL (dCons (dVar 0) (dCons (dCB oLen (dCons (dIxN 1 (dVar 7)) dNil)) dNil)))))
  (sSeq (sSet 14 (dBin oIx (dLst (dCons (dTup (dCons (dC (.int 0)) (dCons (dC (.int 1)) dNil))) (dCons (dTup (dCons (dC (.int 0)) (dCons (dC (.int 1)) dNil))) (dCons (dTup (dCons (dC (.int 1)) (dCons (dC (.int 2)) dNil))) (dCons (dTup (dCons (dC (.int 1)) (dCons (dC (.int 3)) dNil))) dNil))))) (dCall sp_takeL (dCons (dVar 0) (dCons (dC (.int 4)) dNil)))))
  (sSeq (sSet 15 (dCall sp_spot_plusL (dCons (dIxN 4 (dVar 6)) (dCons (dTup (dCons (dTup (dCons (dSub (dIxN 0 (dVar 10)) (dIxN 0 (dVar 13))) (dCons (dC (.int 1)) dNil))) (dCons (dTup (dCons (dSub (dIxN 1 (dVar 10)) (dIxN 1 (dVar 13))) (dCons (dC (.int 1)) dNil))) dNil))) dNil))))
  (sSeq (sSet 15 (dCall sp_spot_plusL (dCons (dVar 15) (dCons (dCall sp_spot_timesL (dCons (dVar 12) (dCons (dVar 14) dNil))) dNil))))
  (sSeq (sPar 16 17 (dCons (dIxN 4 (dVar 7)) (dCons (dIxN 5 (dVar 7)) dNil)))
  (sSeq (sIf (dTst (dGt (dVar 1) (dC (.int 1)))) (sSeq (sSet 18 (dLst (dCons (dTup (dCons (dC (.int 0)) (dCons (dC (.int 1)) dNil))) (dCons (dTup (dCons (dC (.int 0)) (dCons (dC (.int 1)) dNil))) (dCons (dTup (dCons (dC (.int 1)) (dCons (dC (.int 7)) dNil))) (dCons (dTup (dCons (dNeg (dC (.int 1))) (dCons (dC (.int 7)) dNil))) dNil))))))
  (sSet 16 (dCall sp_spotL (dCons (dCall sp_spot_plusL (dCons (dVar 15) (dCons (dTup (dCons (dBin oIx (dVar 18) (dCall sp_takeL (dCons (dVar 0) (dCons (dC (.int 4)) dNil)))) (dCons (dBin oIx (dVar 18) (dCall sp_takeL (dCons (dVar 0) (dCons (dC (.int 4)) dNil)))) dNil))) dNil))) dNil)))) sNext)
  t_pairTail)))))))))))))))) := rfl
theorem ix5 (a b c d e : D) {i : Int} (h0 : 0 ≤ i) (h1 : i < 5) : ∃ x ∈ [a, b, c, d, e], atI [a, b, c, d, e] i = some x := atI_ex h0 (by simpa using h1)
theorem ix4 (a b c d : D) {i : Int} (h0 : 0 ≤ i) (h1 : i < 4) : ∃ x ∈ [a, b, c, d], atI [a, b, c, d] i = some x := atI_ex h0 (by simpa using h1)
theorem atC {cs : List P2} {i : Int} (h0 : 0 ≤ i) (h1 : i < cs.length) : ∃ c ∈ cs, atI (cs.map dPr) i = some (dPr c) := by
  obtain ⟨j, rfl⟩ := Int.eq_ofNat_of_zero_le h0
  have hj : j < cs.length := by omega
  exact ⟨cs[j], List.getElem_mem hj, atI_nat (by rw [List.getElem?_map, List.getElem?_eq_getElem hj]; rfl)⟩
theorem rd_pairL : Rd 1 20 sp_pairL t_pairL := by
  rw [pair_split]
  rintro _ ⟨dk, ow⟩ R - ho ⟨a, rfl, d, rfl, rfl, hb, h⟩
  cases ho
  simp only [sp_takeL, sp_namesL, sp_rowL, sp_shareL, sRet, sSeq, sIf, sNext, sSet, sPar, sAsg, sFor, sNever, sCont, dVar, dC, dNeg, dBin, oI, oI0, oEq, oIx, dTst, dAndT, dOrT, dNotT, dAndV, dOrV, dNotV, dIfE, dNil, dCons, dTup, dLst, dIxN, dCall, dCB, oAt, oAbs, gdName, gdNil, gdCons, gdTup, startD, tYesD, dIsi, List.map, List.length, List.replicate, Nat.sub_self, Nat.reduceSub, Nat.reduceAdd, List.reduceReplicate, List.append_nil, List.nil_append, List.cons_append, List.getElem?_cons_zero, List.getElem?_cons_succ, List.set_cons_zero, List.set_cons_succ, if_true, if_false, Bool.not_true, Bool.not_false, Bool.false_eq_true, decide_true, decide_false, true_and, and_true]
  refine ⟨_, _, rfl, by decide, by decide, d, rfl, rfl, by omega, fun n1 hn1 near r0 r1 => ⟨_, _, rfl, by decide, by decide, _, rfl, rfl, by simp; omega, fun n2 hn2 aim a0 a1 => ⟨_, _, rfl, by decide, by decide, _, rfl, rfl, by simp at hn2 ⊢; omega, fun n3 hn3 zi z0 z1 => ?_⟩⟩⟩
  simp at hn2 hn3
  obtain ⟨z, hz, ez⟩ : ∃ z : Int, (0 ≤ z ∧ z ≤ 2) ∧ atI [D.int 0, D.int 0, D.int 0, D.int 1, D.int 2] zi = some (.int z) := by
    obtain ⟨x, hx, ex⟩ := ix5 (D.int 0) (D.int 0) (D.int 0) (D.int 1) (D.int 2) z0 z1
    simp only [List.mem_cons, List.not_mem_nil, or_false] at hx
    rcases hx with rfl | rfl | rfl | rfl | rfl
    · exact ⟨0, by decide, ex⟩
    · exact ⟨0, by decide, ex⟩
    · exact ⟨0, by decide, ex⟩
    · exact ⟨1, by decide, ex⟩
    · exact ⟨2, by decide, ex⟩
  simp only [ez, sRet, sSeq, sIf, sNext, sSet, sPar, sAsg, sFor, sNever, sCont, dVar, dC, dNeg, dBin, oI, oI0, oEq, oIx, dTst, dAndT, dOrT, dNotT, dAndV, dOrV, dNotV, dIfE, dNil, dCons, dTup, dLst, dIxN, dCall, dCB, oAt, oAbs, gdName, gdNil, gdCons, gdTup, startD, tYesD, dIsi, List.map, List.length, List.replicate, Nat.sub_self, Nat.reduceSub, Nat.reduceAdd, List.reduceReplicate, List.append_nil, List.nil_append, List.cons_append, List.getElem?_cons_zero, List.getElem?_cons_succ, List.set_cons_zero, List.set_cons_succ, if_true, if_false, Bool.not_true, Bool.not_false, Bool.false_eq_true, decide_true, decide_false, true_and, and_true]
  refine ⟨_, _, rfl, by decide, by decide, _, rfl, rfl, by simp; omega, fun n4 hn4 si s0 s1 => ?_⟩
  simp at hn4
  obtain ⟨sp, hsp, es⟩ : ∃ z : Int, (5 ≤ z ∧ z ≤ 1000000) ∧ atI [D.int 5, D.int 5, D.int 30, D.int 1000000] si = some (.int z) := by
    obtain ⟨x, hx, ex⟩ := ix4 (D.int 5) (D.int 5) (D.int 30) (D.int 1000000) s0 s1
    simp only [List.mem_cons, List.not_mem_nil, or_false] at hx
    rcases hx with rfl | rfl | rfl | rfl
    · exact ⟨5, by decide, ex⟩
    · exact ⟨5, by decide, ex⟩
    · exact ⟨30, by decide, ex⟩
    · exact ⟨1000000, by decide, ex⟩
  simp only [es, sRet, sSeq, sIf, sNext, sSet, sPar, sAsg, sFor, sNever, sCont, dVar, dC, dNeg, dBin, oI, oI0, oEq, oIx, dTst, dAndT, dOrT, dNotT, dAndV, dOrV, dNotV, dIfE, dNil, dCons, dTup, dLst, dIxN, dCall, dCB, oAt, oAbs, gdName, gdNil, gdCons, gdTup, startD, tYesD, dIsi, List.map, List.length, List.replicate, Nat.sub_self, Nat.reduceSub, Nat.reduceAdd, List.reduceReplicate, List.append_nil, List.nil_append, List.cons_append, List.getElem?_cons_zero, List.getElem?_cons_succ, List.set_cons_zero, List.set_cons_succ, if_true, if_false, Bool.not_true, Bool.not_false, Bool.false_eq_true, decide_true, decide_false, true_and, and_true]
  refine ⟨d.a, rfl, _, rfl, rfl, by simp; omega, fun n5 hn5 u v => ⟨d.a, u, sp, z, false, rfl, hsp.1, hsp.2, hz.1, hz.2, _, rfl, rfl, by simp at hn5 ⊢; omega, fun n6 hn6 x gx px sx => ⟨d.a, v, sp, z, _, rfl, hsp.1, hsp.2, hz.1, hz.2, _, rfl, rfl, by simp at hn5 hn6 ⊢; omega, fun n7 hn7 y gy py sy => ?_⟩⟩⟩
  simp at hn5 hn6 hn7
  refine ⟨_, _, rfl, by decide, by decide, _, rfl, rfl, by simp; omega, fun n8 hn8 p p0 p1 => ⟨_, _, rfl, by decide, by decide, _, rfl, rfl, by simp at hn8 ⊢; omega, fun n9 hn9 q q0 q1 => ?_⟩⟩
  simp at hn8 hn9
  have bp : B 3 (1 + p) := B.le (by omega) (by omega)
  have bq : B 3 (1 + q) := B.le (by omega) (by omega)
  refine ⟨_, _, rfl, by omega, bq.mono (by decide), ?_⟩
  have w0 : 0 < Rat.divInt (1 + p) (1 + q) := by
    rw [← num_pos, (divInt_cut (by omega)).1]
    have hg := gcd_pos (t := 1 + p) (b := 1 + q) (.inl (by omega))
    have hd := Int.gcd_dvd_left (1 + p) (1 + q)
    have := Int.le_of_dvd (by omega) hd
    exact Int.ediv_pos_of_pos_of_dvd (by omega) (by omega) hd
  have wB : Bq 3 (Rat.divInt (1 + p) (1 + q)) := Bq_cut bp bq (by omega)
  generalize Rat.divInt (1 + p) (1 + q) = wh at w0 wB ⊢
  simp only [oLen, sRet, sSeq, sIf, sNext, sSet, sPar, sAsg, sFor, sNever, sCont, dVar, dC, dNeg, dBin, oI, oI0, oEq, oIx, dTst, dAndT, dOrT, dNotT, dAndV, dOrV, dNotV, dIfE, dNil, dCons, dTup, dLst, dIxN, dCall, dCB, oAt, oAbs, gdName, gdNil, gdCons, gdTup, startD, tYesD, dIsi, List.map, List.length, List.replicate, Nat.sub_self, Nat.reduceSub, Nat.reduceAdd, List.reduceReplicate, List.append_nil, List.nil_append, List.cons_append, List.getElem?_cons_zero, List.getElem?_cons_succ, List.set_cons_zero, List.set_cons_succ, if_true, if_false, Bool.not_true, Bool.not_false, Bool.false_eq_true, decide_true, decide_false, true_and, and_true]
  have lx : ((x.o.cs.map dPr).length : Int) = (x.o.cs.length : Int) := by rw [List.length_map]
  have ly : ((y.o.cs.map dPr).length : Int) = (y.o.cs.length : Int) := by rw [List.length_map]
  have x3 := gx.lo
  have xh := gx.hi
  have y3 := gy.lo
  have yh := gy.hi
  simp only [lx, ly]
  refine ⟨_, _, rfl, by omega, by omega, _, rfl, rfl, by simp; omega, fun n10 hn10 i i0 i1 => ?_⟩
  simp at hn10
  obtain ⟨c, hc, ec⟩ := atC (cs := x.o.cs) i0 i1
  have j0 : 0 ≤ (i + 1) % (x.o.cs.length : Int) := Int.emod_nonneg _ (by omega)
  have j1 : (i + 1) % (x.o.cs.length : Int) < (x.o.cs.length : Int) := Int.emod_lt_of_pos _ (by omega)
  obtain ⟨c', hc', ec'⟩ := atC (cs := x.o.cs) j0 j1
  simp only [ec, ec', sRet, sSeq, sIf, sNext, sSet, sPar, sAsg, sFor, sNever, sCont, dVar, dC, dNeg, dBin, oI, oI0, oEq, oIx, dTst, dAndT, dOrT, dNotT, dAndV, dOrV, dNotV, dIfE, dNil, dCons, dTup, dLst, dIxN, dCall, dCB, oAt, oAbs, gdName, gdNil, gdCons, gdTup, startD, tYesD, dIsi, List.map, List.length, List.replicate, Nat.sub_self, Nat.reduceSub, Nat.reduceAdd, List.reduceReplicate, List.append_nil, List.nil_append, List.cons_append, List.getElem?_cons_zero, List.getElem?_cons_succ, List.set_cons_zero, List.set_cons_succ, if_true, if_false, Bool.not_true, Bool.not_false, Bool.false_eq_true, decide_true, decide_false, true_and, and_true]
  refine ⟨by omega, _, _, rfl, by omega, by omega, _, rfl, rfl, by simp; omega, fun n11 hn11 k k0 k1 => ?_⟩
  simp at hn11
  obtain ⟨e, he, ee⟩ := atC (cs := y.o.cs) k0 k1
  simp only [ee, sRet, sSeq, sIf, sNext, sSet, sPar, sAsg, sFor, sNever, sCont, dVar, dC, dNeg, dBin, oI, oI0, oEq, oIx, dTst, dAndT, dOrT, dNotT, dAndV, dOrV, dNotV, dIfE, dNil, dCons, dTup, dLst, dIxN, dCall, dCB, oAt, oAbs, gdName, gdNil, gdCons, gdTup, startD, tYesD, dIsi, List.map, List.length, List.replicate, Nat.sub_self, Nat.reduceSub, Nat.reduceAdd, List.reduceReplicate, List.append_nil, List.nil_append, List.cons_append, List.getElem?_cons_zero, List.getElem?_cons_succ, List.set_cons_zero, List.set_cons_succ, if_true, if_false, Bool.not_true, Bool.not_false, Bool.false_eq_true, decide_true, decide_false, true_and, and_true]
  refine ⟨_, _, rfl, by decide, by decide, _, rfl, rfl, by simp; omega, fun n12 hn12 l l0 l1 => ?_⟩
  simp at hn12
  obtain ⟨pt, hpt, ept⟩ : ∃ pt : P2, Fb 1 2 pt ∧ atI [D.tup [.int 0, .int 1], .tup [.int 0, .int 1], .tup [.int 1, .int 2], .tup [.int 1, .int 3]] l = some (dPr pt) := by
    obtain ⟨x, hx, ex⟩ := ix4 (D.tup [.int 0, .int 1]) (D.tup [.int 0, .int 1]) (D.tup [.int 1, .int 2]) (D.tup [.int 1, .int 3]) l0 l1
    simp only [List.mem_cons, List.not_mem_nil, or_false] at hx
    rcases hx with rfl | rfl | rfl | rfl
    · exact ⟨(0, 1), ⟨by unfold B; decide, by unfold B; decide, by decide⟩, ex⟩
    · exact ⟨(0, 1), ⟨by unfold B; decide, by unfold B; decide, by decide⟩, ex⟩
    · exact ⟨(1, 2), ⟨by unfold B; decide, by unfold B; decide, by decide⟩, ex⟩
    · exact ⟨(1, 3), ⟨by unfold B; decide, by unfold B; decide, by decide⟩, ex⟩
  simp only [ept, sp_spot_plusL, sp_spot_timesL, sRet, sSeq, sIf, sNext, sSet, sPar, sAsg, sFor, sNever, sCont, dVar, dC, dNeg, dBin, oI, oI0, oEq, oIx, dTst, dAndT, dOrT, dNotT, dAndV, dOrV, dNotV, dIfE, dNil, dCons, dTup, dLst, dIxN, dCall, dCB, oAt, oAbs, gdName, gdNil, gdCons, gdTup, startD, tYesD, dIsi, List.map, List.length, List.replicate, Nat.sub_self, Nat.reduceSub, Nat.reduceAdd, List.reduceReplicate, List.append_nil, List.nil_append, List.cons_append, List.getElem?_cons_zero, List.getElem?_cons_succ, List.set_cons_zero, List.set_cons_succ, if_true, if_false, Bool.not_true, Bool.not_false, Bool.false_eq_true, decide_true, decide_false, true_and, and_true]
  have bc := gx.small c hc
  have bc' := gx.small c' hc'
  have be := gy.small e he
  have o1 : Fb 22 1 (c.1 - e.1, (1 : Int)) := Fb.int ((bc.1.sub be.1).mono (by decide))
  have o2 : Fb 22 1 (c.2 - e.2, (1 : Int)) := Fb.int ((bc.2.sub be.2).mono (by decide))
  have d1 : Fb 22 1 (c'.1 - c.1, (1 : Int)) := Fb.int ((bc'.1.sub bc.1).mono (by decide))
  have d2 : Fb 22 1 (c'.2 - c.2, (1 : Int)) := Fb.int ((bc'.2.sub bc.2).mono (by decide))
  let F (q : Rat) : P2 := (q.num, (q.den : Int))
  have x4 : Fb 200 200 (F x.o.place.1) ∧ Fb 200 200 (F x.o.place.2) := ⟨px.1.fb, px.2.fb⟩
  have s1 := x4.1.plus o1
  have s2 := x4.2.plus o2
  have t1 := d1.times hpt
  have t2 := d2.times hpt
  have u1 := (s1.plus t1).mono (n' := 227) (k' := 204) (by decide) (by decide)
  have u2 := (s2.plus t2).mono (n' := 227) (k' := 204) (by decide) (by decide)
  refine ⟨(F x.o.place.1, F x.o.place.2), ((c.1 - e.1, 1), (c.2 - e.2, 1)), rfl, x4.1.bw (by decide) (by decide), x4.2.bw (by decide) (by decide), o1.bw (by decide) (by decide), o2.bw (by decide) (by decide), ?_⟩
  refine ⟨((c'.1 - c.1, 1), (c'.2 - c.2, 1)), pt, rfl, d1.bw (by decide) (by decide), d2.bw (by decide) (by decide), hpt.bw (by decide) (by decide), ?_⟩
  refine ⟨(plusF (F x.o.place.1) (c.1 - e.1, 1), plusF (F x.o.place.2) (c.2 - e.2, 1)), (timesF (c'.1 - c.1, 1) pt, timesF (c'.2 - c.2, 1) pt), rfl, s1.bw (by decide) (by decide), s2.bw (by decide) (by decide), t1.bw (by decide) (by decide), t2.bw (by decide) (by decide), ?_⟩
  have tail : ∀ (place : Q2) (n' : Nat) (o18 : Option D), Bs 231 place → n' ≤ n12 + 2 → t_pairTail (Ret R) [some (.ref d.a), some (.int near), some (.int aim), some (.int z), some (.int sp), some (.lst [.str u, .str v]), some (dB x), some (dB y), some (dQ wh), some (.int i), some (dPr c), some (dPr c'), some (dFr ((c'.1 - c.1, 1), (c'.2 - c.2, 1))), some (dPr e), some (dPr pt), some (dFr (plusF (plusF (F x.o.place.1) (c.1 - e.1, 1)) (timesF (c'.1 - c.1, 1) pt), plusF (plusF (F x.o.place.2) (c.2 - e.2, 1)) (timesF (c'.2 - c.2, 1) pt))), some (dS place), some (dS y.o.speed), o18, none] ⟨some { d with n := n' }, none⟩ := fun place n' o18 hp hn' =>
    rd_pairTail { d with n := n' } R x y place _ _ wh aim _ _ _ _ _ _ _ _ _ o18 _ (by simp; omega) gx gy px sx sy hp ⟨u1, u2⟩ ⟨d1, d2⟩ w0 wB fun n2 hn2 x' y' hxy => h n2 (by simp at hn2; omega) x' y' wh hxy w0 wB
  by_cases q : 1 < near
  · simp only [q, sp_takeL, sp_spotL, sRet, sSeq, sIf, sNext, sSet, sPar, sAsg, sFor, sNever, sCont, dVar, dC, dNeg, dBin, oI, oI0, oEq, oIx, dTst, dAndT, dOrT, dNotT, dAndV, dOrV, dNotV, dIfE, dNil, dCons, dTup, dLst, dIxN, dCall, dCB, oAt, oAbs, gdName, gdNil, gdCons, gdTup, startD, tYesD, dIsi, List.map, List.length, List.replicate, Nat.sub_self, Nat.reduceSub, Nat.reduceAdd, List.reduceReplicate, List.append_nil, List.nil_append, List.cons_append, List.getElem?_cons_zero, List.getElem?_cons_succ, List.set_cons_zero, List.set_cons_succ, if_true, if_false, Bool.not_true, Bool.not_false, Bool.false_eq_true, decide_true, decide_false, true_and, and_true]
    refine ⟨_, _, rfl, by decide, by decide, _, rfl, rfl, by simp; omega, fun n13 hn13 f f0 f1 => ?_⟩
    simp at hn13
    have some4 : ∀ f : Int, 0 ≤ f → f < 4 → ∃ pt : P2, Fb 1 3 pt ∧ atI [D.tup [.int 0, .int 1], .tup [.int 0, .int 1], .tup [.int 1, .int 7], .tup [.int (-1), .int 7]] f = some (dPr pt) := by
      intro f l0 l1
      obtain ⟨x, hx, ex⟩ := ix4 (D.tup [.int 0, .int 1]) (D.tup [.int 0, .int 1]) (D.tup [.int 1, .int 7]) (D.tup [.int (-1), .int 7]) l0 l1
      simp only [List.mem_cons, List.not_mem_nil, or_false] at hx
      rcases hx with rfl | rfl | rfl | rfl
      · exact ⟨(0, 1), ⟨by unfold B; decide, by unfold B; decide, by decide⟩, ex⟩
      · exact ⟨(0, 1), ⟨by unfold B; decide, by unfold B; decide, by decide⟩, ex⟩
      · exact ⟨(1, 7), ⟨by unfold B; decide, by unfold B; decide, by decide⟩, ex⟩
      · exact ⟨(-1, 7), ⟨by unfold B; decide, by unfold B; decide, by decide⟩, ex⟩
    obtain ⟨v1, hv1, ev1⟩ := some4 f f0 f1
    simp only [ev1, sRet, sSeq, sIf, sNext, sSet, sPar, sAsg, sFor, sNever, sCont, dVar, dC, dNeg, dBin, oI, oI0, oEq, oIx, dTst, dAndT, dOrT, dNotT, dAndV, dOrV, dNotV, dIfE, dNil, dCons, dTup, dLst, dIxN, dCall, dCB, oAt, oAbs, gdName, gdNil, gdCons, gdTup, startD, tYesD, dIsi, List.map, List.length, List.replicate, Nat.sub_self, Nat.reduceSub, Nat.reduceAdd, List.reduceReplicate, List.append_nil, List.nil_append, List.cons_append, List.getElem?_cons_zero, List.getElem?_cons_succ, List.set_cons_zero, List.set_cons_succ, if_true, if_false, Bool.not_true, Bool.not_false, Bool.false_eq_true, decide_true, decide_false, true_and, and_true]
    refine ⟨_, _, rfl, by decide, by decide, _, rfl, rfl, by simp; omega, fun n14 hn14 g g0 g1 => ?_⟩
    simp at hn14
    obtain ⟨v2, hv2, ev2⟩ := some4 g g0 g1
    simp only [ev2, sRet, sSeq, sIf, sNext, sSet, sPar, sAsg, sFor, sNever, sCont, dVar, dC, dNeg, dBin, oI, oI0, oEq, oIx, dTst, dAndT, dOrT, dNotT, dAndV, dOrV, dNotV, dIfE, dNil, dCons, dTup, dLst, dIxN, dCall, dCB, oAt, oAbs, gdName, gdNil, gdCons, gdTup, startD, tYesD, dIsi, List.map, List.length, List.replicate, Nat.sub_self, Nat.reduceSub, Nat.reduceAdd, List.reduceReplicate, List.append_nil, List.nil_append, List.cons_append, List.getElem?_cons_zero, List.getElem?_cons_succ, List.set_cons_zero, List.set_cons_succ, if_true, if_false, Bool.not_true, Bool.not_false, Bool.false_eq_true, decide_true, decide_false, true_and, and_true]
    have y1 := u1.plus hv1
    have y2 := u2.plus hv2
    refine ⟨(plusF (plusF (F x.o.place.1) (c.1 - e.1, 1)) (timesF (c'.1 - c.1, 1) pt), plusF (plusF (F x.o.place.2) (c.2 - e.2, 1)) (timesF (c'.2 - c.2, 1) pt)), (v1, v2), rfl, u1.bw (by decide) (by decide), u2.bw (by decide) (by decide), hv1.bw (by decide) (by decide), hv2.bw (by decide) (by decide), ?_⟩
    refine ⟨(plusF (plusF (plusF (F x.o.place.1) (c.1 - e.1, 1)) (timesF (c'.1 - c.1, 1) pt)) v1, plusF (plusF (plusF (F x.o.place.2) (c.2 - e.2, 1)) (timesF (c'.2 - c.2, 1) pt)) v2), rfl, y1.p, y2.p, y1.b.mono (by decide), y2.b.mono (by decide), ?_⟩
    exact tail (_, _) n14 _ ⟨y1.bq (by decide) (by decide), y2.bq (by decide) (by decide)⟩ (by omega)
  · simp only [q, sRet, sSeq, sIf, sNext, sSet, sPar, sAsg, sFor, sNever, sCont, dVar, dC, dNeg, dBin, oI, oI0, oEq, oIx, dTst, dAndT, dOrT, dNotT, dAndV, dOrV, dNotV, dIfE, dNil, dCons, dTup, dLst, dIxN, dCall, dCB, oAt, oAbs, gdName, gdNil, gdCons, gdTup, startD, tYesD, dIsi, List.map, List.length, List.replicate, Nat.sub_self, Nat.reduceSub, Nat.reduceAdd, List.reduceReplicate, List.append_nil, List.nil_append, List.cons_append, List.getElem?_cons_zero, List.getElem?_cons_succ, List.set_cons_zero, List.set_cons_succ, if_true, if_false, Bool.not_true, Bool.not_false, Bool.false_eq_true, decide_true, decide_false, true_and, and_true]
    exact tail y.o.place n12 none (py.mono (by decide)) (by omega)
end K23
/-! the readings keep the promises: the papers -/
namespace K23
open PySem PySem.Spec PyProof.Rows L2
def PsOk (ps : List Pap) : Prop := ∀ p ∈ ps, PapOk p
theorem PsOk.add {ps qs : List Pap} (h : PsOk ps) (k : PsOk qs) : PsOk (ps ++ qs) := fun p hp => by
  rcases List.mem_append.mp hp with q | q
  · exact h p q
  · exact k p q
theorem PsOk.one {p : Pap} (h : PapOk p) : PsOk [p] := fun q hq => by rw [List.mem_singleton.mp hq]; exact h
theorem rd_papersL : Rd 3 12 sp_papersL t_papersL := by
  rintro _ ⟨dk, ow⟩ R - ho ⟨c, a, b, rfl, hp, d, rfl, rfl, hb, h⟩
  cases ho
  simp only [t_papersL, sp_pair_waysL, sp_uprightL, sOwnCat, iLst, dLc, sRet, sSeq, sIf, sNext, sSet, sPar, sAsg, sFor, sNever, sCont, dVar, dC, dNeg, dBin, oI, oI0, oEq, oIx, dTst, dAndT, dOrT, dNotT, dAndV, dOrV, dNotV, dIfE, dNil, dCons, dTup, dLst, dIxN, dCall, dCB, oAt, oAbs, gdName, gdNil, gdCons, gdTup, startD, tYesD, dIsi, List.map, List.length, List.replicate, Nat.sub_self, Nat.reduceSub, Nat.reduceAdd, List.reduceReplicate, List.append_nil, List.nil_append, List.cons_append, List.getElem?_cons_zero, List.getElem?_cons_succ, List.set_cons_zero, List.set_cons_succ, if_true, if_false, Bool.not_true, Bool.not_false, Bool.false_eq_true, decide_true, decide_false, true_and, and_true]
  refine ⟨a, b, rfl, hp, fun ws hw hl => ⟨a, b, rfl, hp, fun u hu => ?_⟩⟩
  have hB : ∀ w ∈ ws, BW 22 w := fun w q => PW_BW hp w ((hw w).mp q)
  have wne : 0 < ws.length := by
    cases e : PW a.o b.o with
    | nil => exact absurd e (PW_ne hp)
    | cons w r => exact List.length_pos_of_mem ((hw w).mpr (by rw [e]; simp))
  refine lc_map ws dPr (fun w => dPap (.clear w)) (by omega) ?_ ?_
  · intro w _ J hJ
    simp only [wipeD, sRet, sSeq, sIf, sNext, sSet, sPar, sAsg, sFor, sNever, sCont, dVar, dC, dNeg, dBin, oI, oI0, oEq, oIx, dTst, dAndT, dOrT, dNotT, dAndV, dOrV, dNotV, dIfE, dNil, dCons, dTup, dLst, dIxN, dCall, dCB, oAt, oAbs, gdName, gdNil, gdCons, gdTup, startD, tYesD, dIsi, List.map, List.length, List.replicate, Nat.sub_self, Nat.reduceSub, Nat.reduceAdd, List.reduceReplicate, List.append_nil, List.nil_append, List.cons_append, List.getElem?_cons_zero, List.getElem?_cons_succ, List.set_cons_zero, List.set_cons_succ, if_true, if_false, Bool.not_true, Bool.not_false, Bool.false_eq_true, decide_true, decide_false, true_and, and_true]
    exact hJ
  refine ⟨by simp; omega, fun p => ?_⟩
  obtain ⟨ps0, hps0⟩ : ∃ ps0 : List Pap, ps0 = ws.map Pap.clear ++ [.clear u, .clear (neg u)] := ⟨_, rfl⟩
  have e0 : ws.map (fun w => dPap (.clear w)) ++ [D.tup [.str "clear", .tup [.int u.1, .int u.2]], .tup [.str "clear", .tup [.int (-u.1), .int (-u.2)]]] = ps0.map dPap := by
    rw [hps0, List.map_append, List.map_map]
    rfl
  have ok0 : PsOk ps0 := by
    rw [hps0]
    refine PsOk.add (fun q hq => ?_) (fun q hq => ?_)
    · obtain ⟨w, hw', rfl⟩ := List.mem_map.mp hq
      exact (hB w hw').mono (by decide)
    · simp only [List.mem_cons, List.not_mem_nil, or_false] at hq
      rcases hq with rfl | rfl
      · exact hu
      · exact hu.neg
  have l0 : ps0.length ≤ 82 := by rw [hps0]; simp; omega
  rw [e0]
  simp only [iRng, sRet, sSeq, sIf, sNext, sSet, sPar, sAsg, sFor, sNever, sCont, dVar, dC, dNeg, dBin, oI, oI0, oEq, oIx, dTst, dAndT, dOrT, dNotT, dAndV, dOrV, dNotV, dIfE, dNil, dCons, dTup, dLst, dIxN, dCall, dCB, oAt, oAbs, gdName, gdNil, gdCons, gdTup, startD, tYesD, dIsi, List.map, List.length, List.replicate, Nat.sub_self, Nat.reduceSub, Nat.reduceAdd, List.reduceReplicate, List.append_nil, List.nil_append, List.cons_append, List.getElem?_cons_zero, List.getElem?_cons_succ, List.set_cons_zero, List.set_cons_succ, if_true, if_false, Bool.not_true, Bool.not_false, Bool.false_eq_true, decide_true, decide_false, true_and, and_true]
  refine ⟨⟨by decide, by decide⟩, ?_⟩
  refine loop_rule (fun items ds m => ∃ (ps : List Pap) (n' : Nat) (o7 o8 o9 o10 o11 : Option D), ds = [some (.ref d.a), some (dB a), some (dB b), some (.lst (ws.map dPr)), some (.int u.1), some (.int u.2), some (.ref p), o7, o8, o9, o10, o11] ∧ m = ⟨some { d with n := n' }, some (p, ps.map dPap)⟩ ∧ PsOk ps ∧ ps.length + items.length ≤ 85 ∧ n' + 2 * items.length ≤ d.n + 6) ?_ ?_ _ _ _ ⟨ps0, d.n, _, _, _, _, _, rfl, rfl, ok0, by simp [intsTo]; omega, by simp [intsTo]⟩
  · rintro x xs _ _ J ⟨ps, n', o7, o8, o9, o10, o11, rfl, rfl, ok, hz, hn⟩ hJ
    simp only [sApp, sp_takeL, sp_wayL, sRet, sSeq, sIf, sNext, sSet, sPar, sAsg, sFor, sNever, sCont, dVar, dC, dNeg, dBin, oI, oI0, oEq, oIx, dTst, dAndT, dOrT, dNotT, dAndV, dOrV, dNotV, dIfE, dNil, dCons, dTup, dLst, dIxN, dCall, dCB, oAt, oAbs, gdName, gdNil, gdCons, gdTup, startD, tYesD, dIsi, List.map, List.length, List.replicate, Nat.sub_self, Nat.reduceSub, Nat.reduceAdd, List.reduceReplicate, List.append_nil, List.nil_append, List.cons_append, List.getElem?_cons_zero, List.getElem?_cons_succ, List.set_cons_zero, List.set_cons_succ, if_true, if_false, Bool.not_true, Bool.not_false, Bool.false_eq_true, decide_true, decide_false, true_and, and_true]
    refine ⟨_, _, rfl, by decide, by decide, _, rfl, rfl, by simp at hn ⊢; omega, fun n1 hn1 r r0 r1 => ⟨_, _, rfl, by decide, by decide, _, rfl, rfl, by simp at hn hn1 ⊢; omega, fun n2 hn2 s s0 s1 => ?_⟩⟩
    have b1 : B 7 (r - 49) := B.le (by omega) (by omega)
    have b2 : B 7 (1 + s) := B.le (by omega) (by omega)
    have hz' : r - 49 ≠ 0 ∨ 1 + s ≠ 0 := .inr (by omega)
    refine ⟨_, _, rfl, hz', b1.mono (by decide), b2.mono (by decide), by simp at hz ⊢; omega, ?_⟩
    refine hJ _ _ ⟨ps ++ [.clear (wayM (r - 49) (1 + s))], n2, _, _, _, _, _, rfl, by simp [dPap], ok.add (PsOk.one (p := .clear _) (show BW 1850 _ from ⟨(B_div b1 (gcd_pos hz')).mono (by decide), (B_div b2 (gcd_pos hz')).mono (by decide)⟩)), by simp at hz ⊢; omega, by simp at hn hn1 hn2; omega⟩
  · rintro _ _ ⟨ps1, n1, o7, o8, o9, o10, o11, rfl, rfl, ok1, hz1, hn1⟩
    simp only [sp_crossingsL, sRet, sSeq, sIf, sNext, sSet, sPar, sAsg, sFor, sNever, sCont, dVar, dC, dNeg, dBin, oI, oI0, oEq, oIx, dTst, dAndT, dOrT, dNotT, dAndV, dOrV, dNotV, dIfE, dNil, dCons, dTup, dLst, dIxN, dCall, dCB, oAt, oAbs, gdName, gdNil, gdCons, gdTup, startD, tYesD, dIsi, List.map, List.length, List.replicate, Nat.sub_self, Nat.reduceSub, Nat.reduceAdd, List.reduceReplicate, List.append_nil, List.nil_append, List.cons_append, List.getElem?_cons_zero, List.getElem?_cons_succ, List.set_cons_zero, List.set_cons_succ, if_true, if_false, Bool.not_true, Bool.not_false, Bool.false_eq_true, decide_true, decide_false, true_and, and_true]
    have hz1 : ps1.length ≤ 85 := hz1
    have hn1 : n1 ≤ d.n + 6 := hn1
    refine ⟨a, b, rfl, hp, fun l hl2 hlB => ?_⟩
    refine loop_rule (fun items ds m => ∃ (todo : List (Rat × P2 × Bool)) (q : Addr) (ps : List Pap) (n' : Nat) (o7 o8 o9 o10 o11 : Option D), items = todo.map (fun x => .tup [dQ x.1, dPr x.2.1, .bl x.2.2]) ∧ (∀ x ∈ todo, Bq 5590 x.1 ∧ BW 22 x.2.1) ∧ ds = [some (.ref d.a), some (dB a), some (dB b), some (.lst (ws.map dPr)), some (.int u.1), some (.int u.2), some (.ref q), o7, o8, o9, o10, o11] ∧ m = ⟨some { d with n := n' }, some (q, ps.map dPap)⟩ ∧ PsOk ps ∧ ps.length + 3 * todo.length ≤ 400 ∧ n' + 2 * todo.length ≤ d.n + 400) ?_ ?_ _ _ _ ⟨l, p, ps1, n1, _, _, _, _, _, rfl, hlB, rfl, rfl, ok1, by omega, by omega⟩
    · rintro x xs _ _ J ⟨todo, q, ps, n', o7, o8, o9, o10, o11, e2, ht, rfl, rfl, ok, hz, hn⟩ hJ
      cases todo with
      | nil => cases e2
      | cons y todo =>
        cases e2
        obtain ⟨bt, bw⟩ := ht y List.mem_cons_self
        simp only [sApp, sp_takeL, sp_plusL, sp_shareL, dFrz, oLen, sRet, sSeq, sIf, sNext, sSet, sPar, sAsg, sFor, sNever, sCont, dVar, dC, dNeg, dBin, oI, oI0, oEq, oIx, dTst, dAndT, dOrT, dNotT, dAndV, dOrV, dNotV, dIfE, dNil, dCons, dTup, dLst, dIxN, dCall, dCB, oAt, oAbs, gdName, gdNil, gdCons, gdTup, startD, tYesD, dIsi, List.map, List.length, List.replicate, Nat.sub_self, Nat.reduceSub, Nat.reduceAdd, List.reduceReplicate, List.append_nil, List.nil_append, List.cons_append, List.getElem?_cons_zero, List.getElem?_cons_succ, List.set_cons_zero, List.set_cons_succ, if_true, if_false, Bool.not_true, Bool.not_false, Bool.false_eq_true, decide_true, decide_false, true_and, and_true]
        refine ⟨_, _, rfl, by decide, by decide, _, rfl, rfl, by simp at hn ⊢; omega, fun n1 hn1 r r0 r1 => ?_⟩
        have b2 : B 7 (1 + r) := B.le (by omega) (by omega)
        have b1 : B 1 1 := by unfold B; decide
        refine ⟨(y.1.num, (y.1.den : Int)), (1, 1 + r), rfl, bt.bw.mono (by decide), ⟨b1.mono (by decide), b2.mono (by decide)⟩, ?_⟩
        have lw : ((ws.map dPr).length : Int) = (ws.length : Int) := by rw [List.length_map]
        simp only [lw]
        refine ⟨rfl, _, _, rfl, by omega, by omega, _, rfl, rfl, by simp at hn hn1 ⊢; omega, fun n2 hn2 s s0 s1 => ?_⟩
        obtain ⟨v, hv, ev⟩ : ∃ v ∈ ws, atI (ws.map dPr) s = some (dPr v) := by
          obtain ⟨j, rfl⟩ := Int.eq_ofNat_of_zero_le s0
          have hj : j < ws.length := by omega
          exact ⟨ws[j], List.getElem_mem hj, atI_nat (by rw [List.getElem?_map, List.getElem?_eq_getElem hj]; rfl)⟩
        simp only [ev, sRet, sSeq, sIf, sNext, sSet, sPar, sAsg, sFor, sNever, sCont, dVar, dC, dNeg, dBin, oI, oI0, oEq, oIx, dTst, dAndT, dOrT, dNotT, dAndV, dOrV, dNotV, dIfE, dNil, dCons, dTup, dLst, dIxN, dCall, dCB, oAt, oAbs, gdName, gdNil, gdCons, gdTup, startD, tYesD, dIsi, List.map, List.length, List.replicate, Nat.sub_self, Nat.reduceSub, Nat.reduceAdd, List.reduceReplicate, List.append_nil, List.nil_append, List.cons_append, List.getElem?_cons_zero, List.getElem?_cons_succ, List.set_cons_zero, List.set_cons_succ, if_true, if_false, Bool.not_true, Bool.not_false, Bool.false_eq_true, decide_true, decide_false, true_and, and_true]
        refine ⟨by simp at hz ⊢; omega, fun q' => ?_⟩
        have pd : 0 < (y.1.den : Int) * (1 + r) := Int.mul_pos (den_pos _) (by omega)
        have bd : B 5597 ((y.1.den : Int) * (1 + r)) := (bt.den.mul b2).mono (by decide)
        have bn : B 5598 (y.1.num * (1 + r) + 1 * (y.1.den : Int)) := ((bt.1.mul b2).add (b1.mul bt.den)).mono (by decide)
        refine ⟨rfl, _, _, rfl, pd, bd.mono (by decide), rfl, by simp at hz ⊢; omega, ?_⟩
        have bq := Bq_cut bn (bd.mono (by decide)) (by omega)
        refine hJ _ _ ⟨todo, q', ps ++ [.meets y.1 y.2.1, .meets y.1 v, .meets (Rat.divInt (y.1.num * (1 + r) + 1 * (y.1.den : Int)) ((y.1.den : Int) * (1 + r))) y.2.1], n2, _, _, _, _, _, rfl, fun z hz' => ht z (List.mem_cons_of_mem _ hz'), rfl, by simp [dPap], ok.add fun z hz' => ?_, by simp at hz ⊢; omega, by simp at hn hn1 hn2; omega⟩
        simp only [List.mem_cons, List.not_mem_nil, or_false] at hz'
        rcases hz' with rfl | rfl | rfl
        · exact ⟨bt.mono (by decide), bw⟩
        · exact ⟨bt.mono (by decide), hB v hv⟩
        · exact ⟨bq.mono (by decide), bw⟩
    · rintro _ _ ⟨todo, q, ps, n', o7, o8, o9, o10, o11, e2, ht, rfl, rfl, ok, hz, hn⟩
      simp only [dFrz, sRet, sSeq, sIf, sNext, sSet, sPar, sAsg, sFor, sNever, sCont, dVar, dC, dNeg, dBin, oI, oI0, oEq, oIx, dTst, dAndT, dOrT, dNotT, dAndV, dOrV, dNotV, dIfE, dNil, dCons, dTup, dLst, dIxN, dCall, dCB, oAt, oAbs, gdName, gdNil, gdCons, gdTup, startD, tYesD, dIsi, List.map, List.length, List.replicate, Nat.sub_self, Nat.reduceSub, Nat.reduceAdd, List.reduceReplicate, List.append_nil, List.nil_append, List.cons_append, List.getElem?_cons_zero, List.getElem?_cons_succ, List.set_cons_zero, List.set_cons_succ, if_true, if_false, Bool.not_true, Bool.not_false, Bool.false_eq_true, decide_true, decide_false, true_and, and_true]
      exact h n' (by omega) ps ok (by omega)
end K23
/-! the readings keep the promises: the law's end -/
namespace K23
open PySem PySem.Spec PyProof.Rows L2
theorem okQ (q : Rat) : OkD 1 (dQ q) := okPr _ _
theorem okP (p : Pap) : OkD 2 (dPap p) := by
  cases p with
  | clear w =>
    refine .tup fun x hx => ?_
    simp only [List.mem_cons, List.not_mem_nil, or_false] at hx
    rcases hx with rfl | rfl
    · exact .str _ _ (by decide +kernel)
    · exact okPr _ _
  | meets t w =>
    refine .tup fun x hx => ?_
    simp only [List.mem_cons, List.not_mem_nil, or_false] at hx
    rcases hx with rfl | rfl | rfl
    · exact .str _ _ (by decide +kernel)
    · exact okQ t
    · exact okPr _ _
theorem OkD.up : ∀ (n : Nat) (d : D), OkD n d → ∀ k, n ≤ k → OkD k d
  | n, _, .non _, k, _ => .non k
  | n, _, .bl _ b, k, _ => .bl k b
  | n, _, .int _ i, k, _ => .int k i
  | n, _, .str _ x h, k, _ => .str k x h
  | n + 1, _, .tup h, k + 1, e => .tup fun x hx => OkD.up n x (h x hx) k (by omega)
  | n + 1, _, .lst h, k + 1, e => .lst fun x hx => OkD.up n x (h x hx) k (by omega)
  | n + 1, _, .tup h, 0, e => absurd e (by omega)
  | n + 1, _, .lst h, 0, e => absurd e (by omega)
theorem okQs {ts : List Rat} : ∀ x ∈ ts.map dQ, OkD 60 x := fun x hx => by
  obtain ⟨t, _, rfl⟩ := List.mem_map.mp hx
  exact OkD.up _ _ (okQ t) _ (by decide)
theorem okPs {ts : List Pap} : ∀ x ∈ ts.map dPap, OkD 60 x := fun x hx => by
  obtain ⟨t, _, rfl⟩ := List.mem_map.mp hx
  exact OkD.up _ _ (okP t) _ (by decide)
theorem rd_told_is_rightL : Rd 4 6 sp_told_is_rightL t_told_is_rightL := by
  rintro _ ⟨dk, ow⟩ R - ho ⟨a, b, u, ts, rfl, hp, hu, u0, hov, hts, hl, h⟩
  cases ho
  simp only [t_told_is_rightL, sp_first, sRet, sSeq, sIf, sNext, sSet, sPar, sAsg, sFor, sNever, sCont, dVar, dC, dNeg, dBin, oI, oI0, oEq, oIx, dTst, dAndT, dOrT, dNotT, dAndV, dOrV, dNotV, dIfE, dNil, dCons, dTup, dLst, dIxN, dCall, dCB, oAt, oAbs, gdName, gdNil, gdCons, gdTup, startD, tYesD, dIsi, List.map, List.length, List.replicate, Nat.sub_self, Nat.reduceSub, Nat.reduceAdd, List.reduceReplicate, List.append_nil, List.nil_append, List.cons_append, List.getElem?_cons_zero, List.getElem?_cons_succ, List.set_cons_zero, List.set_cons_succ, if_true, if_false, Bool.not_true, Bool.not_false, Bool.false_eq_true, decide_true, decide_false, true_and, and_true]
  refine ⟨a, b, u, rfl, hp, hu.mono (by decide), u0, hov, fun p hh pk => ?_⟩
  simp only [sp_first_held, sp_turnedL, sRet, sSeq, sIf, sNext, sSet, sPar, sAsg, sFor, sNever, sCont, dVar, dC, dNeg, dBin, oI, oI0, oEq, oIx, dTst, dAndT, dOrT, dNotT, dAndV, dOrV, dNotV, dIfE, dNil, dCons, dTup, dLst, dIxN, dCall, dCB, oAt, oAbs, gdName, gdNil, gdCons, gdTup, startD, tYesD, dIsi, List.map, List.length, List.replicate, Nat.sub_self, Nat.reduceSub, Nat.reduceAdd, List.reduceReplicate, List.append_nil, List.nil_append, List.cons_append, List.getElem?_cons_zero, List.getElem?_cons_succ, List.set_cons_zero, List.set_cons_succ, if_true, if_false, Bool.not_true, Bool.not_false, Bool.false_eq_true, decide_true, decide_false, true_and, and_true]
  refine ⟨a, b, u, p, rfl, hp, hu.mono (by decide), pk, fun k hk => ?_⟩
  have hk := hk.mpr hh
  subst hk
  simp only [sRet, sSeq, sIf, sNext, sSet, sPar, sAsg, sFor, sNever, sCont, dVar, dC, dNeg, dBin, oI, oI0, oEq, oIx, dTst, dAndT, dOrT, dNotT, dAndV, dOrV, dNotV, dIfE, dNil, dCons, dTup, dLst, dIxN, dCall, dCB, oAt, oAbs, gdName, gdNil, gdCons, gdTup, startD, tYesD, dIsi, List.map, List.length, List.replicate, Nat.sub_self, Nat.reduceSub, Nat.reduceAdd, List.reduceReplicate, List.append_nil, List.nil_append, List.cons_append, List.getElem?_cons_zero, List.getElem?_cons_succ, List.set_cons_zero, List.set_cons_succ, if_true, if_false, Bool.not_true, Bool.not_false, Bool.false_eq_true, decide_true, decide_false, true_and, and_true]
  refine ⟨p, rfl, b, a, u, turnedM p, rfl, hp.symm, hu.mono (by decide), ?_, fun k hk => ?_⟩
  · cases p with
    | clear w => exact BW.neg pk
    | meets t w => exact ⟨pk.1, pk.2.neg⟩
  have hk := hk.mpr (M5 hh)
  subst hk
  cases p with
  | clear w =>
    simp only [dPap, oEqD, sRet, sSeq, sIf, sNext, sSet, sPar, sAsg, sFor, sNever, sCont, dVar, dC, dNeg, dBin, oI, oI0, oEq, oIx, dTst, dAndT, dOrT, dNotT, dAndV, dOrV, dNotV, dIfE, dNil, dCons, dTup, dLst, dIxN, dCall, dCB, oAt, oAbs, gdName, gdNil, gdCons, gdTup, startD, tYesD, dIsi, List.map, List.length, List.replicate, Nat.sub_self, Nat.reduceSub, Nat.reduceAdd, List.reduceReplicate, List.append_nil, List.nil_append, List.cons_append, List.getElem?_cons_zero, List.getElem?_cons_succ, List.set_cons_zero, List.set_cons_succ, if_true, if_false, Bool.not_true, Bool.not_false, Bool.false_eq_true, decide_true, decide_false, true_and, and_true]
    have e : ts = [] := by
      cases ts with
      | nil => rfl
      | cons t r =>
        obtain ⟨v, hv⟩ := hts t List.mem_cons_self
        exact (M1 hp hh hv).elim
    subst e
    simp only [sRet, sSeq, sIf, sNext, sSet, sPar, sAsg, sFor, sNever, sCont, dVar, dC, dNeg, dBin, oI, oI0, oEq, oIx, dTst, dAndT, dOrT, dNotT, dAndV, dOrV, dNotV, dIfE, dNil, dCons, dTup, dLst, dIxN, dCall, dCB, oAt, oAbs, gdName, gdNil, gdCons, gdTup, startD, tYesD, dIsi, List.map, List.length, List.replicate, Nat.sub_self, Nat.reduceSub, Nat.reduceAdd, List.reduceReplicate, List.append_nil, List.nil_append, List.cons_append, List.getElem?_cons_zero, List.getElem?_cons_succ, List.set_cons_zero, List.set_cons_succ, if_true, if_false, Bool.not_true, Bool.not_false, Bool.false_eq_true, decide_true, decide_false, true_and, and_true]
    exact ⟨by simp, h⟩
  | meets t w =>
    simp only [dPap, ne_words', iLst, dLc, sRet, sSeq, sIf, sNext, sSet, sPar, sAsg, sFor, sNever, sCont, dVar, dC, dNeg, dBin, oI, oI0, oEq, oIx, dTst, dAndT, dOrT, dNotT, dAndV, dOrV, dNotV, dIfE, dNil, dCons, dTup, dLst, dIxN, dCall, dCB, oAt, oAbs, gdName, gdNil, gdCons, gdTup, startD, tYesD, dIsi, List.map, List.length, List.replicate, Nat.sub_self, Nat.reduceSub, Nat.reduceAdd, List.reduceReplicate, List.append_nil, List.nil_append, List.cons_append, List.getElem?_cons_zero, List.getElem?_cons_succ, List.set_cons_zero, List.set_cons_succ, if_true, if_false, Bool.not_true, Bool.not_false, Bool.false_eq_true, decide_true, decide_false, true_and, and_true]
    refine lc_filter ts dQ dQ (fun s => !decide ((s.num, (s.den : Int)) = (t.num, (t.den : Int)))) (by omega) ?_ ?_
    · intro s hs J N h1 h2
      simp only [wipeD, oEqD, sRet, sSeq, sIf, sNext, sSet, sPar, sAsg, sFor, sNever, sCont, dVar, dC, dNeg, dBin, oI, oI0, oEq, oIx, dTst, dAndT, dOrT, dNotT, dAndV, dOrV, dNotV, dIfE, dNil, dCons, dTup, dLst, dIxN, dCall, dCB, oAt, oAbs, gdName, gdNil, gdCons, gdTup, startD, tYesD, dIsi, List.map, List.length, List.replicate, Nat.sub_self, Nat.reduceSub, Nat.reduceAdd, List.reduceReplicate, List.append_nil, List.nil_append, List.cons_append, List.getElem?_cons_zero, List.getElem?_cons_succ, List.set_cons_zero, List.set_cons_succ, if_true, if_false, Bool.not_true, Bool.not_false, Bool.false_eq_true, decide_true, decide_false, true_and, and_true]
      by_cases q : (s.num, (s.den : Int)) = (t.num, (t.den : Int))
      · simp only [q, sRet, sSeq, sIf, sNext, sSet, sPar, sAsg, sFor, sNever, sCont, dVar, dC, dNeg, dBin, oI, oI0, oEq, oIx, dTst, dAndT, dOrT, dNotT, dAndV, dOrV, dNotV, dIfE, dNil, dCons, dTup, dLst, dIxN, dCall, dCB, oAt, oAbs, gdName, gdNil, gdCons, gdTup, startD, tYesD, dIsi, List.map, List.length, List.replicate, Nat.sub_self, Nat.reduceSub, Nat.reduceAdd, List.reduceReplicate, List.append_nil, List.nil_append, List.cons_append, List.getElem?_cons_zero, List.getElem?_cons_succ, List.set_cons_zero, List.set_cons_succ, if_true, if_false, Bool.not_true, Bool.not_false, Bool.false_eq_true, decide_true, decide_false, true_and, and_true] at h2 ⊢
        exact h2 trivial
      · simp only [q, sRet, sSeq, sIf, sNext, sSet, sPar, sAsg, sFor, sNever, sCont, dVar, dC, dNeg, dBin, oI, oI0, oEq, oIx, dTst, dAndT, dOrT, dNotT, dAndV, dOrV, dNotV, dIfE, dNil, dCons, dTup, dLst, dIxN, dCall, dCB, oAt, oAbs, gdName, gdNil, gdCons, gdTup, startD, tYesD, dIsi, List.map, List.length, List.replicate, Nat.sub_self, Nat.reduceSub, Nat.reduceAdd, List.reduceReplicate, List.append_nil, List.nil_append, List.cons_append, List.getElem?_cons_zero, List.getElem?_cons_succ, List.set_cons_zero, List.set_cons_succ, if_true, if_false, Bool.not_true, Bool.not_false, Bool.false_eq_true, decide_true, decide_false, true_and, and_true] at h1 ⊢
        exact h1 trivial
    · have e : ts.filter (fun s => !decide ((s.num, (s.den : Int)) = (t.num, (t.den : Int)))) = [] := by
        rw [List.filter_eq_nil_iff]
        intro s hs
        obtain ⟨v, hv⟩ := hts s hs
        have := M2 hv hh
        rw [this]
        simp
      rw [e]
      simp only [oEqD, sRet, sSeq, sIf, sNext, sSet, sPar, sAsg, sFor, sNever, sCont, dVar, dC, dNeg, dBin, oI, oI0, oEq, oIx, dTst, dAndT, dOrT, dNotT, dAndV, dOrV, dNotV, dIfE, dNil, dCons, dTup, dLst, dIxN, dCall, dCB, oAt, oAbs, gdName, gdNil, gdCons, gdTup, startD, tYesD, dIsi, List.map, List.length, List.replicate, Nat.sub_self, Nat.reduceSub, Nat.reduceAdd, List.reduceReplicate, List.append_nil, List.nil_append, List.cons_append, List.getElem?_cons_zero, List.getElem?_cons_succ, List.set_cons_zero, List.set_cons_succ, if_true, if_false, Bool.not_true, Bool.not_false, Bool.false_eq_true, decide_true, decide_false, true_and, and_true]
      exact ⟨by simp, h⟩
def isM : Pap → Bool
  | .clear _ => false
  | .meets _ _ => true
def timeD : Pap → D
  | .clear _ => .non
  | .meets t _ => dQ t
def timesOf : List Pap → List Rat
  | [] => []
  | .clear _ :: r => timesOf r
  | .meets t _ :: r => t :: timesOf r
theorem timesOf_eq : ∀ ps : List Pap, (ps.filter isM).map timeD = (timesOf ps).map dQ
  | [] => rfl
  | .clear _ :: r => by
    have := timesOf_eq r
    simpa [isM, timesOf] using this
  | .meets t w :: r => by
    rw [List.filter_cons_of_pos rfl, List.map_cons, timesOf_eq r]
    rfl
theorem timesOf_mem : ∀ {ps : List Pap} {t : Rat}, t ∈ timesOf ps → ∃ w, Pap.meets t w ∈ ps
  | [], _, h => by cases h
  | .clear _ :: r, t, h => by
    obtain ⟨w, hw⟩ := timesOf_mem (ps := r) h
    exact ⟨w, List.mem_cons_of_mem _ hw⟩
  | .meets s v :: r, t, h => by
    rcases List.mem_cons.mp h with q | q
    · exact ⟨v, by rw [q]; simp⟩
    · obtain ⟨w, hw⟩ := timesOf_mem (ps := r) q
      exact ⟨w, List.mem_cons_of_mem _ hw⟩
theorem timesOf_len : ∀ ps : List Pap, (timesOf ps).length ≤ ps.length
  | [] => by simp [timesOf]
  | .clear _ :: r => by have := timesOf_len r; simp [timesOf]; omega
  | .meets s v :: r => by have := timesOf_len r; simp [timesOf]; omega
theorem rd_law : Rd 1 11 sp_law t_law := by
  rintro _ ⟨dk, ow⟩ R - ho ⟨ns, rfl, hns, hdk, h⟩
  cases ho
  cases hdk
  simp only [t_law, sp_deckL, sp_pairL, sp_untilL, sp_papersL, iLst, dLc, sRet, sSeq, sIf, sNext, sSet, sPar, sAsg, sFor, sNever, sCont, dVar, dC, dNeg, dBin, oI, oI0, oEq, oIx, dTst, dAndT, dOrT, dNotT, dAndV, dOrV, dNotV, dIfE, dNil, dCons, dTup, dLst, dIxN, dCall, dCB, oAt, oAbs, gdName, gdNil, gdCons, gdTup, startD, tYesD, dIsi, List.map, List.length, List.replicate, Nat.sub_self, Nat.reduceSub, Nat.reduceAdd, List.reduceReplicate, List.append_nil, List.nil_append, List.cons_append, List.getElem?_cons_zero, List.getElem?_cons_succ, List.set_cons_zero, List.set_cons_succ, if_true, if_false, Bool.not_true, Bool.not_false, Bool.false_eq_true, decide_true, decide_false, true_and, and_true]
  refine ⟨ns, rfl, hns, fun d d0 => ⟨d.a, rfl, d, rfl, rfl, by rw [d0]; decide, fun n1 hn1 a b wh hp w0 wB => ?_⟩⟩
  simp only [sRet, sSeq, sIf, sNext, sSet, sPar, sAsg, sFor, sNever, sCont, dVar, dC, dNeg, dBin, oI, oI0, oEq, oIx, dTst, dAndT, dOrT, dNotT, dAndV, dOrV, dNotV, dIfE, dNil, dCons, dTup, dLst, dIxN, dCall, dCB, oAt, oAbs, gdName, gdNil, gdCons, gdTup, startD, tYesD, dIsi, List.map, List.length, List.replicate, Nat.sub_self, Nat.reduceSub, Nat.reduceAdd, List.reduceReplicate, List.append_nil, List.nil_append, List.cons_append, List.getElem?_cons_zero, List.getElem?_cons_succ, List.set_cons_zero, List.set_cons_succ, if_true, if_false, Bool.not_true, Bool.not_false, Bool.false_eq_true, decide_true, decide_false, true_and, and_true]
  refine ⟨d.a, wh, rfl, w0, wB, _, rfl, rfl, by simp; omega, fun n2 hn2 u u0 uB => ⟨d.a, a, b, rfl, hp, _, rfl, rfl, by simp at hn2 ⊢; omega, fun n3 hn3 ps hps hpl => ?_⟩⟩
  simp at hn2 hn3
  have dn : n3 ≤ 100000 := by omega
  refine lc_filter ps dPap dPap (fun p => @decide (Held a.o b.o u p) (Classical.propDecidable _)) (by omega) ?_ ?_
  · intro p hp' J N h1 h2
    simp only [wipeD, sp_first_held, sRet, sSeq, sIf, sNext, sSet, sPar, sAsg, sFor, sNever, sCont, dVar, dC, dNeg, dBin, oI, oI0, oEq, oIx, dTst, dAndT, dOrT, dNotT, dAndV, dOrV, dNotV, dIfE, dNil, dCons, dTup, dLst, dIxN, dCall, dCB, oAt, oAbs, gdName, gdNil, gdCons, gdTup, startD, tYesD, dIsi, List.map, List.length, List.replicate, Nat.sub_self, Nat.reduceSub, Nat.reduceAdd, List.reduceReplicate, List.append_nil, List.nil_append, List.cons_append, List.getElem?_cons_zero, List.getElem?_cons_succ, List.set_cons_zero, List.set_cons_succ, if_true, if_false, Bool.not_true, Bool.not_false, Bool.false_eq_true, decide_true, decide_false, true_and, and_true]
    refine ⟨a, b, u, p, rfl, hp, uB.mono (by decide), hps p hp', fun k hk => ?_⟩
    by_cases q : Held a.o b.o u p
    · have hk := hk.mpr q
      subst hk
      simp only [sRet, sSeq, sIf, sNext, sSet, sPar, sAsg, sFor, sNever, sCont, dVar, dC, dNeg, dBin, oI, oI0, oEq, oIx, dTst, dAndT, dOrT, dNotT, dAndV, dOrV, dNotV, dIfE, dNil, dCons, dTup, dLst, dIxN, dCall, dCB, oAt, oAbs, gdName, gdNil, gdCons, gdTup, startD, tYesD, dIsi, List.map, List.length, List.replicate, Nat.sub_self, Nat.reduceSub, Nat.reduceAdd, List.reduceReplicate, List.append_nil, List.nil_append, List.cons_append, List.getElem?_cons_zero, List.getElem?_cons_succ, List.set_cons_zero, List.set_cons_succ, if_true, if_false, Bool.not_true, Bool.not_false, Bool.false_eq_true, decide_true, decide_false, true_and, and_true]
      exact h1 (by simpa using q)
    · have hk : k = false := by
        cases k with
        | false => rfl
        | true => exact absurd (hk.mp rfl) q
      subst hk
      simp only [sRet, sSeq, sIf, sNext, sSet, sPar, sAsg, sFor, sNever, sCont, dVar, dC, dNeg, dBin, oI, oI0, oEq, oIx, dTst, dAndT, dOrT, dNotT, dAndV, dOrV, dNotV, dIfE, dNil, dCons, dTup, dLst, dIxN, dCall, dCB, oAt, oAbs, gdName, gdNil, gdCons, gdTup, startD, tYesD, dIsi, List.map, List.length, List.replicate, Nat.sub_self, Nat.reduceSub, Nat.reduceAdd, List.reduceReplicate, List.append_nil, List.nil_append, List.cons_append, List.getElem?_cons_zero, List.getElem?_cons_succ, List.set_cons_zero, List.set_cons_succ, if_true, if_false, Bool.not_true, Bool.not_false, Bool.false_eq_true, decide_true, decide_false, true_and, and_true]
      exact h2 (by simpa using q)
  obtain ⟨hs, hhs⟩ : ∃ hs, hs = ps.filter (fun p => @decide (Held a.o b.o u p) (Classical.propDecidable _)) := ⟨_, rfl⟩
  have held : ∀ p ∈ hs, Held a.o b.o u p ∧ PapOk p := fun p q => by
    rw [hhs] at q
    have := List.mem_filter.mp q
    exact ⟨by simpa using this.2, hps p this.1⟩
  have hl : hs.length ≤ 1000 := by
    rw [hhs]
    exact Nat.le_trans (List.length_filter_le _ _) hpl
  rw [← hhs]
  clear hhs
  refine lc_filter hs dPap timeD isM (by omega) ?_ ?_
  · intro p hp' J N h1 h2
    cases p with
    | clear w =>
      simp only [wipeD, dPap, ne_words, sRet, sSeq, sIf, sNext, sSet, sPar, sAsg, sFor, sNever, sCont, dVar, dC, dNeg, dBin, oI, oI0, oEq, oIx, dTst, dAndT, dOrT, dNotT, dAndV, dOrV, dNotV, dIfE, dNil, dCons, dTup, dLst, dIxN, dCall, dCB, oAt, oAbs, gdName, gdNil, gdCons, gdTup, startD, tYesD, dIsi, List.map, List.length, List.replicate, Nat.sub_self, Nat.reduceSub, Nat.reduceAdd, List.reduceReplicate, List.append_nil, List.nil_append, List.cons_append, List.getElem?_cons_zero, List.getElem?_cons_succ, List.set_cons_zero, List.set_cons_succ, if_true, if_false, Bool.not_true, Bool.not_false, Bool.false_eq_true, decide_true, decide_false, true_and, and_true]
      exact h2 rfl
    | meets t w =>
      simp only [wipeD, dPap, sRet, sSeq, sIf, sNext, sSet, sPar, sAsg, sFor, sNever, sCont, dVar, dC, dNeg, dBin, oI, oI0, oEq, oIx, dTst, dAndT, dOrT, dNotT, dAndV, dOrV, dNotV, dIfE, dNil, dCons, dTup, dLst, dIxN, dCall, dCB, oAt, oAbs, gdName, gdNil, gdCons, gdTup, startD, tYesD, dIsi, List.map, List.length, List.replicate, Nat.sub_self, Nat.reduceSub, Nat.reduceAdd, List.reduceReplicate, List.append_nil, List.nil_append, List.cons_append, List.getElem?_cons_zero, List.getElem?_cons_succ, List.set_cons_zero, List.set_cons_succ, if_true, if_false, Bool.not_true, Bool.not_false, Bool.false_eq_true, decide_true, decide_false, true_and, and_true]
      exact h1 rfl
  rw [timesOf_eq]
  have ht : ∀ t ∈ timesOf hs, ∃ w, Held a.o b.o u (.meets t w) := fun t q => by
    obtain ⟨w, hw⟩ := timesOf_mem q
    exact ⟨w, (held _ hw).1⟩
  have tl := Nat.le_trans (timesOf_len hs) hl
  generalize timesOf hs = ts at ht tl ⊢
  -- never a clear and a meeting
  simp only [oEqD, sRet, sSeq, sIf, sNext, sSet, sPar, sAsg, sFor, sNever, sCont, dVar, dC, dNeg, dBin, oI, oI0, oEq, oIx, dTst, dAndT, dOrT, dNotT, dAndV, dOrV, dNotV, dIfE, dNil, dCons, dTup, dLst, dIxN, dCall, dCB, oAt, oAbs, gdName, gdNil, gdCons, gdTup, startD, tYesD, dIsi, List.map, List.length, List.replicate, Nat.sub_self, Nat.reduceSub, Nat.reduceAdd, List.reduceReplicate, List.append_nil, List.nil_append, List.cons_append, List.getElem?_cons_zero, List.getElem?_cons_succ, List.set_cons_zero, List.set_cons_succ, if_true, if_false, Bool.not_true, Bool.not_false, Bool.false_eq_true, decide_true, decide_false, true_and, and_true]
  refine ⟨okQs, ?_⟩
  have step2 : ∀ (X : Prop), X → (if (!(ts.map dQ).isEmpty) = true then dLcL [9] (gdName 9) (dTst (dEq (dIxN 0 (dVar 9)) (dC (.str "meets")))) (dVar 9) (fun _ _ => True) [] none [] [] none ∨ True else True) → True := fun _ _ _ => trivial
  have clears : ts ≠ [] → hs.filter (fun p => !isM p) = [] := fun q => by
    rw [List.filter_eq_nil_iff]
    intro p hp'
    cases p with
    | meets t w => simp [isM]
    | clear w =>
      cases ts with
      | nil => exact absurd rfl q
      | cons t r =>
        obtain ⟨v, hv⟩ := ht t List.mem_cons_self
        exact (M1 hp (held _ hp').1 hv).elim
  clear step2
  -- behind the first check
  have rest : ((sSeq (sIf (dTst (dBin (oEqD true) (dLc (iLst (dVar 7)) (gdName 10) (dTst (dBin (oEqD true) (dVar 10) (dIxN 0 (dVar 7)))) (dVar 10) [10]) (dLst dNil))) (sRet (dC (.bl false))) sNext)
  (sSeq (sIf (dTst (dCall sp_overL (dCons (dVar 2) (dCons (dVar 3) (dCons (dTup (dCons (dC (.int 0)) (dCons (dC (.int 1)) dNil))) dNil))))) (sRet (dBin (oEqD false) (dVar 6) (dLst dNil))) sNext)
  (sSeq (sIf (dNotT (dTst (dCall sp_told_is_rightL (dCons (dVar 2) (dCons (dVar 3) (dCons (dVar 5) (dCons (dVar 7) dNil))))))) (sRet (dC (.bl false))) sNext)
  (sSeq (sSet 8 (dCall sp_plusL (dCons (dVar 5) (dCons (dTup (dCons (dAdd (dC (.int 1)) (dCall sp_takeL (dCons (dVar 1) (dCons (dC (.int 9)) dNil)))) (dCons (dAdd (dC (.int 1)) (dCall sp_takeL (dCons (dVar 1) (dCons (dC (.int 9)) dNil)))) dNil))) dNil))))
  (sSeq (sFor (iLst (dVar 6)) (gdName 9) (sIf (dTst (dEq (dIxN 0 (dVar 9)) (dC (.str "meets")))) (sSeq (sIf (dNotT (dTst (dCall sp_first_held (dCons (dVar 2) (dCons (dVar 3) (dCons (dCall sp_shareL (dCons (dIxN 0 (dVar 8)) (dCons (dIxN 1 (dVar 8)) dNil))) (dCons (dVar 9) dNil))))))) (sRet (dC (.bl false))) sNext)
  (sIf (dTst (dNe (dIxN 0 (dCall sp_first (dCons (dVar 2) (dCons (dVar 3) (dCons (dIxN 1 (dVar 9)) dNil))))) (dC (.str "clear")))) (sRet (dC (.bl false))) sNext)) sNext))
  (sRet (dC (.bl true))))))))) (Ret R) [some (.lst (ns.map D.int)), some (.ref d.a), some (dB a), some (dB b), some (dQ wh), some (dQ u), some (.lst (hs.map dPap)), some (.lst (ts.map dQ)), none, none, none] ⟨some { d with n := n3 }, none⟩ := by
    simp only [iLst, dLc, sRet, sSeq, sIf, sNext, sSet, sPar, sAsg, sFor, sNever, sCont, dVar, dC, dNeg, dBin, oI, oI0, oEq, oIx, dTst, dAndT, dOrT, dNotT, dAndV, dOrV, dNotV, dIfE, dNil, dCons, dTup, dLst, dIxN, dCall, dCB, oAt, oAbs, gdName, gdNil, gdCons, gdTup, startD, tYesD, dIsi, List.map, List.length, List.replicate, Nat.sub_self, Nat.reduceSub, Nat.reduceAdd, List.reduceReplicate, List.append_nil, List.nil_append, List.cons_append, List.getElem?_cons_zero, List.getElem?_cons_succ, List.set_cons_zero, List.set_cons_succ, if_true, if_false, Bool.not_true, Bool.not_false, Bool.false_eq_true, decide_true, decide_false, true_and, and_true]
    refine lc_filter ts dQ dQ (fun _ => false) (by omega) ?_ ?_
    · intro t hts J N h1 h2
      cases ts with
      | nil => cases hts
      | cons t0 r =>
        simp only [wipeD, sRet, sSeq, sIf, sNext, sSet, sPar, sAsg, sFor, sNever, sCont, dVar, dC, dNeg, dBin, oI, oI0, oEq, oIx, dTst, dAndT, dOrT, dNotT, dAndV, dOrV, dNotV, dIfE, dNil, dCons, dTup, dLst, dIxN, dCall, dCB, oAt, oAbs, gdName, gdNil, gdCons, gdTup, startD, tYesD, dIsi, List.map, List.length, List.replicate, Nat.sub_self, Nat.reduceSub, Nat.reduceAdd, List.reduceReplicate, List.append_nil, List.nil_append, List.cons_append, List.getElem?_cons_zero, List.getElem?_cons_succ, List.set_cons_zero, List.set_cons_succ, if_true, if_false, Bool.not_true, Bool.not_false, Bool.false_eq_true, decide_true, decide_false, true_and, and_true]
        have e : t = t0 := by
          obtain ⟨v, hv⟩ := ht t hts
          obtain ⟨v0, hv0⟩ := ht t0 List.mem_cons_self
          exact M2 hv hv0
        subst e
        simp only [oEqD, sRet, sSeq, sIf, sNext, sSet, sPar, sAsg, sFor, sNever, sCont, dVar, dC, dNeg, dBin, oI, oI0, oEq, oIx, dTst, dAndT, dOrT, dNotT, dAndV, dOrV, dNotV, dIfE, dNil, dCons, dTup, dLst, dIxN, dCall, dCB, oAt, oAbs, gdName, gdNil, gdCons, gdTup, startD, tYesD, dIsi, List.map, List.length, List.replicate, Nat.sub_self, Nat.reduceSub, Nat.reduceAdd, List.reduceReplicate, List.append_nil, List.nil_append, List.cons_append, List.getElem?_cons_zero, List.getElem?_cons_succ, List.set_cons_zero, List.set_cons_succ, if_true, if_false, Bool.not_true, Bool.not_false, Bool.false_eq_true, decide_true, decide_false, true_and, and_true]
        exact h2 rfl
    have e0 : ts.filter (fun _ => false) = [] := by simp
    rw [e0]
    simp only [oEqD, List.isEmpty_nil, sRet, sSeq, sIf, sNext, sSet, sPar, sAsg, sFor, sNever, sCont, dVar, dC, dNeg, dBin, oI, oI0, oEq, oIx, dTst, dAndT, dOrT, dNotT, dAndV, dOrV, dNotV, dIfE, dNil, dCons, dTup, dLst, dIxN, dCall, dCB, oAt, oAbs, gdName, gdNil, gdCons, gdTup, startD, tYesD, dIsi, List.map, List.length, List.replicate, Nat.sub_self, Nat.reduceSub, Nat.reduceAdd, List.reduceReplicate, List.append_nil, List.nil_append, List.cons_append, List.getElem?_cons_zero, List.getElem?_cons_succ, List.set_cons_zero, List.set_cons_succ, if_true, if_false, Bool.not_true, Bool.not_false, Bool.false_eq_true, decide_true, decide_false, true_and, and_true]
    refine ⟨by simp, ?_⟩
    simp only [sp_overL, sRet, sSeq, sIf, sNext, sSet, sPar, sAsg, sFor, sNever, sCont, dVar, dC, dNeg, dBin, oI, oI0, oEq, oIx, dTst, dAndT, dOrT, dNotT, dAndV, dOrV, dNotV, dIfE, dNil, dCons, dTup, dLst, dIxN, dCall, dCB, oAt, oAbs, gdName, gdNil, gdCons, gdTup, startD, tYesD, dIsi, List.map, List.length, List.replicate, Nat.sub_self, Nat.reduceSub, Nat.reduceAdd, List.reduceReplicate, List.append_nil, List.nil_append, List.cons_append, List.getElem?_cons_zero, List.getElem?_cons_succ, List.set_cons_zero, List.set_cons_succ, if_true, if_false, Bool.not_true, Bool.not_false, Bool.false_eq_true, decide_true, decide_false, true_and, and_true]
    refine ⟨a, b, rfl, hp, fun k hk => ?_⟩
    cases k with
    | true =>
      have ov := hk.mp rfl
      have e1 : hs = [] := by
        cases hs with
        | nil => rfl
        | cons p r => exact (M3 hp ov (held p List.mem_cons_self).1).elim
      subst e1
      simp only [List.isEmpty_nil, sRet, sSeq, sIf, sNext, sSet, sPar, sAsg, sFor, sNever, sCont, dVar, dC, dNeg, dBin, oI, oI0, oEq, oIx, dTst, dAndT, dOrT, dNotT, dAndV, dOrV, dNotV, dIfE, dNil, dCons, dTup, dLst, dIxN, dCall, dCB, oAt, oAbs, gdName, gdNil, gdCons, gdTup, startD, tYesD, dIsi, List.map, List.length, List.replicate, Nat.sub_self, Nat.reduceSub, Nat.reduceAdd, List.reduceReplicate, List.append_nil, List.nil_append, List.cons_append, List.getElem?_cons_zero, List.getElem?_cons_succ, List.set_cons_zero, List.set_cons_succ, if_true, if_false, Bool.not_true, Bool.not_false, Bool.false_eq_true, decide_true, decide_false, true_and, and_true]
      exact ⟨by simp, h _⟩
    | false =>
      have ov : ¬ OverNow a.o b.o := fun q => by have := hk.mpr q; cases this
      simp only [sp_told_is_rightL, sp_takeL, sp_plusL, sRet, sSeq, sIf, sNext, sSet, sPar, sAsg, sFor, sNever, sCont, dVar, dC, dNeg, dBin, oI, oI0, oEq, oIx, dTst, dAndT, dOrT, dNotT, dAndV, dOrV, dNotV, dIfE, dNil, dCons, dTup, dLst, dIxN, dCall, dCB, oAt, oAbs, gdName, gdNil, gdCons, gdTup, startD, tYesD, dIsi, List.map, List.length, List.replicate, Nat.sub_self, Nat.reduceSub, Nat.reduceAdd, List.reduceReplicate, List.append_nil, List.nil_append, List.cons_append, List.getElem?_cons_zero, List.getElem?_cons_succ, List.set_cons_zero, List.set_cons_succ, if_true, if_false, Bool.not_true, Bool.not_false, Bool.false_eq_true, decide_true, decide_false, true_and, and_true]
      refine ⟨a, b, u, ts, rfl, hp, uB, u0, ov, ht, by omega, ?_⟩
      refine ⟨_, _, rfl, by decide, by decide, _, rfl, rfl, by simp; omega, fun n4 hn4 r r0 r1 => ⟨_, _, rfl, by decide, by decide, _, rfl, rfl, by simp at hn4 ⊢; omega, fun n5 hn5 s s0 s1 => ?_⟩⟩
      have b1 : B 4 (1 + r) := B.le (by omega) (by omega)
      have b2 : B 4 (1 + s) := B.le (by omega) (by omega)
      refine ⟨(u.num, (u.den : Int)), (1 + r, 1 + s), rfl, uB.bw.mono (by decide), ⟨b1.mono (by decide), b2.mono (by decide)⟩, ?_⟩
      have ld : 0 < (u.den : Int) * (1 + s) := Int.mul_pos (den_pos u) (by omega)
      have lB : BW 25 (u.num * (1 + s) + (1 + r) * (u.den : Int), (u.den : Int) * (1 + s)) := ⟨((uB.1.mul b2).add (b1.mul uB.den)).mono (by decide), (uB.den.mul b2).mono (by decide)⟩
      have lv : u ≤ Rat.divInt (u.num * (1 + s) + (1 + r) * (u.den : Int)) ((u.den : Int) * (1 + s)) := by
        have v2 : Val (1 + r, 1 + s) (Rat.divInt (1 + r) (1 + s)) := ⟨by show 0 < 1 + s; omega, val_divInt (by omega)⟩
        have := ((Val.self u).plus v2).cut
        have e : Rat.divInt (u.num * (1 + s) + (1 + r) * (u.den : Int)) ((u.den : Int) * (1 + s)) = u + Rat.divInt (1 + r) (1 + s) := this
        rw [e]
        have p0 : 0 ≤ Rat.divInt (1 + r) (1 + s) := by
          rw [← num_nonneg, (divInt_cut (by omega)).1]
          exact Int.ediv_nonneg (by omega) (by omega)
        grind
      refine loop_rule (fun items ds m => ∃ (todo : List Pap) (o9 : Option D), items = todo.map dPap ∧ (∀ p ∈ todo, Held a.o b.o u p ∧ PapOk p) ∧ ds = [some (.lst (ns.map D.int)), some (.ref d.a), some (dB a), some (dB b), some (dQ wh), some (dQ u), some (.lst (hs.map dPap)), some (.lst (ts.map dQ)), some (dPr (u.num * (1 + s) + (1 + r) * (u.den : Int), (u.den : Int) * (1 + s))), o9, none] ∧ m = ⟨some { d with n := n5 }, none⟩) ?_ ?_ _ _ _ ⟨hs, _, rfl, held, rfl, rfl⟩
      · rintro x xs _ _ J ⟨todo, o9, e2, ht2, rfl, rfl⟩ hJ
        cases todo with
        | nil => cases e2
        | cons p todo =>
          cases e2
          obtain ⟨hh, pk⟩ := ht2 p List.mem_cons_self
          have go : ∀ o9, J [some (.lst (ns.map D.int)), some (.ref d.a), some (dB a), some (dB b), some (dQ wh), some (dQ u), some (.lst (hs.map dPap)), some (.lst (ts.map dQ)), some (dPr (u.num * (1 + s) + (1 + r) * (u.den : Int), (u.den : Int) * (1 + s))), o9, none] ⟨some { d with n := n5 }, none⟩ := fun o9 => hJ _ _ ⟨todo, o9, rfl, fun q hq => ht2 q (List.mem_cons_of_mem _ hq), rfl, rfl⟩
          cases p with
          | clear w =>
            simp only [dPap, ne_words, sRet, sSeq, sIf, sNext, sSet, sPar, sAsg, sFor, sNever, sCont, dVar, dC, dNeg, dBin, oI, oI0, oEq, oIx, dTst, dAndT, dOrT, dNotT, dAndV, dOrV, dNotV, dIfE, dNil, dCons, dTup, dLst, dIxN, dCall, dCB, oAt, oAbs, gdName, gdNil, gdCons, gdTup, startD, tYesD, dIsi, List.map, List.length, List.replicate, Nat.sub_self, Nat.reduceSub, Nat.reduceAdd, List.reduceReplicate, List.append_nil, List.nil_append, List.cons_append, List.getElem?_cons_zero, List.getElem?_cons_succ, List.set_cons_zero, List.set_cons_succ, if_true, if_false, Bool.not_true, Bool.not_false, Bool.false_eq_true, decide_true, decide_false, true_and, and_true]
            exact go _
          | meets t w =>
            simp only [dPap, sp_shareL, sp_first_held, sp_first, sRet, sSeq, sIf, sNext, sSet, sPar, sAsg, sFor, sNever, sCont, dVar, dC, dNeg, dBin, oI, oI0, oEq, oIx, dTst, dAndT, dOrT, dNotT, dAndV, dOrV, dNotV, dIfE, dNil, dCons, dTup, dLst, dIxN, dCall, dCB, oAt, oAbs, gdName, gdNil, gdCons, gdTup, startD, tYesD, dIsi, List.map, List.length, List.replicate, Nat.sub_self, Nat.reduceSub, Nat.reduceAdd, List.reduceReplicate, List.append_nil, List.nil_append, List.cons_append, List.getElem?_cons_zero, List.getElem?_cons_succ, List.set_cons_zero, List.set_cons_succ, if_true, if_false, Bool.not_true, Bool.not_false, Bool.false_eq_true, decide_true, decide_false, true_and, and_true]
            refine ⟨_, _, rfl, ld, lB.2.mono (by decide), a, b, _, .meets t w, rfl, hp, (Bq_cut lB.1 lB.2 (by omega)).mono (by decide), pk, fun k hk => ?_⟩
            have hk := hk.mpr ⟨hh.1, by have := hh.2.1; grind, hh.2.2⟩
            subst hk
            simp only [sRet, sSeq, sIf, sNext, sSet, sPar, sAsg, sFor, sNever, sCont, dVar, dC, dNeg, dBin, oI, oI0, oEq, oIx, dTst, dAndT, dOrT, dNotT, dAndV, dOrV, dNotV, dIfE, dNil, dCons, dTup, dLst, dIxN, dCall, dCB, oAt, oAbs, gdName, gdNil, gdCons, gdTup, startD, tYesD, dIsi, List.map, List.length, List.replicate, Nat.sub_self, Nat.reduceSub, Nat.reduceAdd, List.reduceReplicate, List.append_nil, List.nil_append, List.cons_append, List.getElem?_cons_zero, List.getElem?_cons_succ, List.set_cons_zero, List.set_cons_succ, if_true, if_false, Bool.not_true, Bool.not_false, Bool.false_eq_true, decide_true, decide_false, true_and, and_true]
            refine ⟨a, b, t, rfl, hp, pk.1, hh.1, ov, fun p hpt _ => ?_⟩
            cases p with
            | clear w' =>
              simp only [dPap, sRet, sSeq, sIf, sNext, sSet, sPar, sAsg, sFor, sNever, sCont, dVar, dC, dNeg, dBin, oI, oI0, oEq, oIx, dTst, dAndT, dOrT, dNotT, dAndV, dOrV, dNotV, dIfE, dNil, dCons, dTup, dLst, dIxN, dCall, dCB, oAt, oAbs, gdName, gdNil, gdCons, gdTup, startD, tYesD, dIsi, List.map, List.length, List.replicate, Nat.sub_self, Nat.reduceSub, Nat.reduceAdd, List.reduceReplicate, List.append_nil, List.nil_append, List.cons_append, List.getElem?_cons_zero, List.getElem?_cons_succ, List.set_cons_zero, List.set_cons_succ, if_true, if_false, Bool.not_true, Bool.not_false, Bool.false_eq_true, decide_true, decide_false, true_and, and_true]
              exact go _
            | meets t' w' =>
              have := M2 hpt hh
              have := hpt.2.1
              grind
      · rintro _ _ ⟨todo, o9, e2, ht2, rfl, rfl⟩
        simp only [sRet, sSeq, sIf, sNext, sSet, sPar, sAsg, sFor, sNever, sCont, dVar, dC, dNeg, dBin, oI, oI0, oEq, oIx, dTst, dAndT, dOrT, dNotT, dAndV, dOrV, dNotV, dIfE, dNil, dCons, dTup, dLst, dIxN, dCall, dCB, oAt, oAbs, gdName, gdNil, gdCons, gdTup, startD, tYesD, dIsi, List.map, List.length, List.replicate, Nat.sub_self, Nat.reduceSub, Nat.reduceAdd, List.reduceReplicate, List.append_nil, List.nil_append, List.cons_append, List.getElem?_cons_zero, List.getElem?_cons_succ, List.set_cons_zero, List.set_cons_succ, if_true, if_false, Bool.not_true, Bool.not_false, Bool.false_eq_true, decide_true, decide_false, true_and, and_true]
        exact h _
  by_cases q : ts = []
  · subst q
    simp only [List.isEmpty_nil, sRet, sSeq, sIf, sNext, sSet, sPar, sAsg, sFor, sNever, sCont, dVar, dC, dNeg, dBin, oI, oI0, oEq, oIx, dTst, dAndT, dOrT, dNotT, dAndV, dOrV, dNotV, dIfE, dNil, dCons, dTup, dLst, dIxN, dCall, dCB, oAt, oAbs, gdName, gdNil, gdCons, gdTup, startD, tYesD, dIsi, List.map, List.length, List.replicate, Nat.sub_self, Nat.reduceSub, Nat.reduceAdd, List.reduceReplicate, List.append_nil, List.nil_append, List.cons_append, List.getElem?_cons_zero, List.getElem?_cons_succ, List.set_cons_zero, List.set_cons_succ, if_true, if_false, Bool.not_true, Bool.not_false, Bool.false_eq_true, decide_true, decide_false, true_and, and_true]
    exact rest
  · have ne : (ts.map dQ).isEmpty = false := by
      cases ts with
      | nil => exact absurd rfl q
      | cons t r => rfl
    simp only [ne, sRet, sSeq, sIf, sNext, sSet, sPar, sAsg, sFor, sNever, sCont, dVar, dC, dNeg, dBin, oI, oI0, oEq, oIx, dTst, dAndT, dOrT, dNotT, dAndV, dOrV, dNotV, dIfE, dNil, dCons, dTup, dLst, dIxN, dCall, dCB, oAt, oAbs, gdName, gdNil, gdCons, gdTup, startD, tYesD, dIsi, List.map, List.length, List.replicate, Nat.sub_self, Nat.reduceSub, Nat.reduceAdd, List.reduceReplicate, List.append_nil, List.nil_append, List.cons_append, List.getElem?_cons_zero, List.getElem?_cons_succ, List.set_cons_zero, List.set_cons_succ, if_true, if_false, Bool.not_true, Bool.not_false, Bool.false_eq_true, decide_true, decide_false, true_and, and_true]
    refine lc_filter hs dPap dPap (fun p => !isM p) (by omega) ?_ ?_
    · intro p hp' J N h1 h2
      cases p with
      | clear w =>
        simp only [wipeD, dPap, sRet, sSeq, sIf, sNext, sSet, sPar, sAsg, sFor, sNever, sCont, dVar, dC, dNeg, dBin, oI, oI0, oEq, oIx, dTst, dAndT, dOrT, dNotT, dAndV, dOrV, dNotV, dIfE, dNil, dCons, dTup, dLst, dIxN, dCall, dCB, oAt, oAbs, gdName, gdNil, gdCons, gdTup, startD, tYesD, dIsi, List.map, List.length, List.replicate, Nat.sub_self, Nat.reduceSub, Nat.reduceAdd, List.reduceReplicate, List.append_nil, List.nil_append, List.cons_append, List.getElem?_cons_zero, List.getElem?_cons_succ, List.set_cons_zero, List.set_cons_succ, if_true, if_false, Bool.not_true, Bool.not_false, Bool.false_eq_true, decide_true, decide_false, true_and, and_true]
        exact h1 rfl
      | meets t w =>
        simp only [wipeD, dPap, ne_words', sRet, sSeq, sIf, sNext, sSet, sPar, sAsg, sFor, sNever, sCont, dVar, dC, dNeg, dBin, oI, oI0, oEq, oIx, dTst, dAndT, dOrT, dNotT, dAndV, dOrV, dNotV, dIfE, dNil, dCons, dTup, dLst, dIxN, dCall, dCB, oAt, oAbs, gdName, gdNil, gdCons, gdTup, startD, tYesD, dIsi, List.map, List.length, List.replicate, Nat.sub_self, Nat.reduceSub, Nat.reduceAdd, List.reduceReplicate, List.append_nil, List.nil_append, List.cons_append, List.getElem?_cons_zero, List.getElem?_cons_succ, List.set_cons_zero, List.set_cons_succ, if_true, if_false, Bool.not_true, Bool.not_false, Bool.false_eq_true, decide_true, decide_false, true_and, and_true]
        exact h2 rfl
    rw [clears q]
    simp only [List.isEmpty_nil, sRet, sSeq, sIf, sNext, sSet, sPar, sAsg, sFor, sNever, sCont, dVar, dC, dNeg, dBin, oI, oI0, oEq, oIx, dTst, dAndT, dOrT, dNotT, dAndV, dOrV, dNotV, dIfE, dNil, dCons, dTup, dLst, dIxN, dCall, dCB, oAt, oAbs, gdName, gdNil, gdCons, gdTup, startD, tYesD, dIsi, List.map, List.length, List.replicate, Nat.sub_self, Nat.reduceSub, Nat.reduceAdd, List.reduceReplicate, List.append_nil, List.nil_append, List.cons_append, List.getElem?_cons_zero, List.getElem?_cons_succ, List.set_cons_zero, List.set_cons_succ, if_true, if_false, Bool.not_true, Bool.not_false, Bool.false_eq_true, decide_true, decide_false, true_and, and_true]
    exact ⟨by simp, rest⟩
end K23
/-! the readings keep the promises: a cell -/
namespace K23
open PySem PySem.Spec PyProof.Rows L2
theorem rd_cellL : Rd 2 2 sp_cellL t_cellL := by
  rintro _ ⟨dk, ow⟩ R - ho ⟨ns, k, rfl, k0, k1, h⟩
  cases ho
  simp only [t_cellL, oLen, sRet, sSeq, sIf, sNext, sSet, sPar, sAsg, sFor, sNever, sCont, dVar, dC, dNeg, dBin, oI, oI0, oEq, oIx, dTst, dAndT, dOrT, dNotT, dAndV, dOrV, dNotV, dIfE, dNil, dCons, dTup, dLst, dIxN, dCall, dCB, oAt, oAbs, gdName, gdNil, gdCons, gdTup, startD, tYesD, dIsi, List.map, List.length, List.replicate, Nat.sub_self, Nat.reduceSub, Nat.reduceAdd, List.reduceReplicate, List.append_nil, List.nil_append, List.cons_append, List.getElem?_cons_zero, List.getElem?_cons_succ, List.set_cons_zero, List.set_cons_succ, if_true, if_false, Bool.not_true, Bool.not_false, Bool.false_eq_true, decide_true, decide_false, true_and, and_true]
  by_cases q : ((ns.map D.int).length : Int) = 0
  · simp only [q, sRet, sSeq, sIf, sNext, sSet, sPar, sAsg, sFor, sNever, sCont, dVar, dC, dNeg, dBin, oI, oI0, oEq, oIx, dTst, dAndT, dOrT, dNotT, dAndV, dOrV, dNotV, dIfE, dNil, dCons, dTup, dLst, dIxN, dCall, dCB, oAt, oAbs, gdName, gdNil, gdCons, gdTup, startD, tYesD, dIsi, List.map, List.length, List.replicate, Nat.sub_self, Nat.reduceSub, Nat.reduceAdd, List.reduceReplicate, List.append_nil, List.nil_append, List.cons_append, List.getElem?_cons_zero, List.getElem?_cons_succ, List.set_cons_zero, List.set_cons_succ, if_true, if_false, Bool.not_true, Bool.not_false, Bool.false_eq_true, decide_true, decide_false, true_and, and_true]
    exact ⟨mulW (n := 3) (k := 32) (by unfold B; decide) (B.le (by omega) (by omega)) (by decide), h _ (by omega)⟩
  · simp only [q, sRet, sSeq, sIf, sNext, sSet, sPar, sAsg, sFor, sNever, sCont, dVar, dC, dNeg, dBin, oI, oI0, oEq, oIx, dTst, dAndT, dOrT, dNotT, dAndV, dOrV, dNotV, dIfE, dNil, dCons, dTup, dLst, dIxN, dCall, dCB, oAt, oAbs, gdName, gdNil, gdCons, gdTup, startD, tYesD, dIsi, List.map, List.length, List.replicate, Nat.sub_self, Nat.reduceSub, Nat.reduceAdd, List.reduceReplicate, List.append_nil, List.nil_append, List.cons_append, List.getElem?_cons_zero, List.getElem?_cons_succ, List.set_cons_zero, List.set_cons_succ, if_true, if_false, Bool.not_true, Bool.not_false, Bool.false_eq_true, decide_true, decide_false, true_and, and_true]
    rw [List.length_map] at q ⊢
    have p : (0 : Int) < (ns.length : Int) := by omega
    refine ⟨p, ?_⟩
    have j0 := Int.emod_nonneg k (show (ns.length : Int) ≠ 0 by omega)
    have j1 := Int.emod_lt_of_pos k p
    obtain ⟨j, ej⟩ := Int.eq_ofNat_of_zero_le j0
    rw [ej] at j1 ⊢
    have hj : j < ns.length := by omega
    have e : atI (ns.map D.int) (j : Int) = some (.int ns[j]) := atI_nat (by rw [List.getElem?_map, List.getElem?_eq_getElem hj]; rfl)
    simp only [e, sRet, sSeq, sIf, sNext, sSet, sPar, sAsg, sFor, sNever, sCont, dVar, dC, dNeg, dBin, oI, oI0, oEq, oIx, dTst, dAndT, dOrT, dNotT, dAndV, dOrV, dNotV, dIfE, dNil, dCons, dTup, dLst, dIxN, dCall, dCB, oAt, oAbs, gdName, gdNil, gdCons, gdTup, startD, tYesD, dIsi, List.map, List.length, List.replicate, Nat.sub_self, Nat.reduceSub, Nat.reduceAdd, List.reduceReplicate, List.append_nil, List.nil_append, List.cons_append, List.getElem?_cons_zero, List.getElem?_cons_succ, List.set_cons_zero, List.set_cons_succ, if_true, if_false, Bool.not_true, Bool.not_false, Bool.false_eq_true, decide_true, decide_false, true_and, and_true]
    exact h _ (by omega)
end K23
/-! the walks by hand: take -/
namespace K23
open PySem PySem.Spec PyProof.Rows L2
theorem HeapOk.deck {K : PySem.W.Frag} {G : Gh} {F H H' : Hp} {m : M} {d : Dk} {n' : Nat} (h : HeapOk K G F m H) (e : m.dk = some d) (ne : ∀ b, b ≠ d.a → b ≠ d.b → H' b = H b) (ok : DeckOk K F H' { d with n := n' }) : HeapOk K G F ⟨some { d with n := n' }, m.ow⟩ H' := by
  obtain ⟨_, _, _, h1, h2, _, h4, h5, _⟩ := h.dk d e
  have nF : ∀ b o, F b = some o → b ≠ d.a ∧ b ≠ d.b := fun b o q => by
    constructor
    · intro z
      rw [z, h4] at q
      cases q
    · intro z
      rw [z, h5] at q
      cases q
  refine ⟨fun b o q => ?_, h.subB, h.fresh, fun b o q hd => ?_, fun d' q => ?_, fun d' q q0 => ?_, fun d0 q => ?_, fun p xs q => ?_⟩
  · rw [ne b (nF b o q).1 (nF b o q).2]
    exact h.sub b o q
  · have hH := h.keep b o q hd
    cases e0 : G.dk0 with
    | none =>
      have := h.dkn d e e0
      rw [ne b (fun z => by rw [z, this.1] at q; cases q) (fun z => by rw [z, this.2] at q; cases q)]
      exact hH
    | some d0 =>
      obtain ⟨d', e1, ea, eb, _⟩ := h.dk0 d0 e0
      rw [e] at e1
      cases e1
      have := hd d0 e0
      rw [ne b (by rw [ea]; exact this.1) (by rw [eb]; exact this.2)]
      exact hH
  · cases q
    exact ok
  · cases q
    exact h.dkn d e q0
  · obtain ⟨d', e1, ea, eb, ec⟩ := h.dk0 d0 q
    rw [e] at e1
    cases e1
    exact ⟨_, rfl, ea, eb, ec⟩
  · obtain ⟨o1, o2, ⟨vs, o3, o4⟩, o5⟩ := h.ow p xs q
    have := o5 d e
    refine ⟨o1, o2, ⟨vs, by rw [ne p this.1 this.2]; exact o3, o4⟩, fun d' q' => ?_⟩
    cases q'
    exact this
theorem ixL {K : PySem.W.Frag} {H : Hp} {p : Addr} {xs : List V} {i : Int} {v : V} {Q : VK} (h : H p = some (.lst xs)) (e : atI xs i = some v) (q : Q v H) : rIxL K (.ref p) (.int i) H Q := ⟨p, xs, i, v, rfl, rfl, .inl (.of h), e, q⟩
theorem walk_takeL {P : Program} {w : World} {K : PySem.W.Frag} {mg : Str → Option Value} {base : Heap} (C : Cal P w K mg base 1 "_law_cell" 2 sp_cellL) (m_len : mg "len" = none) {f : Addr} (cdv : Value) (A : Around) (outer : List Env) (s : Shared) (H : Hp) (E : XK) (hr : Room 1 (A.deeper (envOfC "_law_take" (defScope S_takeL) s.heap.objs.size f cdv)))
    (xs : List D) (vs : List V) (m : M) (F : Hp) (G : Gh) (R : D → M → Prop) (Q : VK) (h1 : Reps K F xs vs) (h3 : HeapOk K G F m H) (h4 : m.ow = none) (h5 : sp_takeL xs m R) (h6 : Fin K G F R Q) :
    ∃ t : TS, PSs (cxOf CX0 P w K mg base N_takeL "_law_take" (defScope S_takeL) f cdv A outer s H E) (defBody S_takeL) t ∧ t ⟨fun _ H' => Q .non H', Q, fun _ _ => False, fun _ _ => False⟩ (L2.start N_takeL vs) H := by
  obtain ⟨fc, fd, ps, N, dd, dvs, dfs, sp0, hf, hm, hk, hb, hd, hr2, hn, hs⟩ := C.ex
  refine ⟨_, PSs.nox (pss_cons (ps_while PassesOwn.never
      (pt_cmpR op_lt (pe_ix ix_list (pe_var (i := 0) rfl (.inl rfl)) pe_int (fun _ _ => rfl)) (pe_callB call_len_seq rfl m_len (by decide +kernel) (pa_cons (pe_ix ix_list (pe_var (i := 0) rfl (.inl rfl)) pe_int (fun _ _ => rfl)) pa_nil)) (nomark _))
      (pss_cons (ps_set (i := 3) sc_takeL.nd rfl (.inl rfl) (pe_ix ix_list (pe_ix ix_list (pe_var (i := 0) rfl (.inl rfl)) pe_int (fun _ _ => rfl)) (pe_ix ix_list (pe_var (i := 0) rfl (.inl rfl)) pe_int (fun _ _ => rfl)) (fun _ _ => rfl)) rfl)
      (pss_cons (ps_if (pt_cmpR op_gt (pe_var (i := 3) rfl (.inl rfl)) pe_int (nomark _))
        (pss_cons (ps_asg (pe_op op_fdivZ (pe_var (i := 3) rfl (.inl rfl)) (pe_var (i := 1) rfl (.inl rfl))) (pg_sub (pe_ix ix_list (pe_var (i := 0) rfl (.inl rfl)) pe_int (fun _ _ => rfl)) (pe_ix ix_list (pe_var (i := 0) rfl (.inl rfl)) pe_int (fun _ _ => rfl)) set_list))
        (pss_one (ps_ret (pe_op op_mod (pe_var (i := 3) rfl (.inl rfl)) (pe_var (i := 1) rfl (.inl rfl)))))) pss_nil)
      (pss_one (ps_asg (pe_op op_add (pe_ix ix_list (pe_var (i := 0) rfl (.inl rfl)) pe_int (fun _ _ => rfl)) pe_int) (pg_sub (pe_var (i := 0) rfl (.inl rfl)) pe_int set_list))))))
    (pss_cons (ps_asg (pe_op op_add (pe_ix ix_list (pe_var (i := 0) rfl (.inl rfl)) pe_int (fun _ _ => rfl)) pe_int) (pg_sub (pe_var (i := 0) rfl (.inl rfl)) pe_int set_list))
    (pss_cons (ps_set (i := 2) sc_takeL.nd rfl (.inl rfl) (pe_op op_add (pe_op op_mulW (pe_op op_add (pe_op op_mod (pe_call hf hr rfl hm hk hb hd pass0 (pa_cons (pe_ix ix_list (pe_var (i := 0) rfl (.inl rfl)) pe_int (fun _ _ => rfl)) (pa_cons (pe_ix ix_list (pe_var (i := 0) rfl (.inl rfl)) pe_int (fun _ _ => rfl)) pa_nil))) pe_int) pe_int) (pe_op op_add (pe_ix ix_list (pe_var (i := 0) rfl (.inl rfl)) pe_int (fun _ _ => rfl)) pe_int)) (pe_op op_mulW pe_int (pe_ix ix_list (pe_var (i := 0) rfl (.inl rfl)) pe_int (fun _ _ => rfl)))) rfl)
    (pss_one (ps_ret (pe_op op_mod (pe_op op_fdivZ (pe_op op_mod (pe_op op_pow (pe_var (i := 2) rfl (.inl rfl)) pe_int) pe_int) pe_int) (pe_var (i := 1) rfl (.inl rfl)))))))), ?_⟩
  obtain ⟨a, many, rfl, hm0, hm1, d, hdk, rfl, hdn, hR⟩ := h5
  obtain ⟨cells, bigs, i0, ha, hbb, hc, fa, fb, nab⟩ := h3.dk d hdk
  obtain ⟨_, _, rfl, r1, r2⟩ := reps2 h1
  cases r1
  cases r2
  obtain ⟨hw, hwdef⟩ : ∃ hw : Hp → Prop, hw = fun H' : Hp => (∃ (i : Nat) (bigs : List Int), H' d.a = some (.lst [.ref d.c, .ref d.b, .int i, .int d.n]) ∧ H' d.b = some (.lst (bigs.map V.int))) ∧ ∀ b, b ≠ d.a → b ≠ d.b → H' b = H b := ⟨_, rfl⟩
  have okd : ∀ (n' : Nat) (i : Nat) (bigs : List Int) (H' : Hp), H' d.a = some (.lst [.ref d.c, .ref d.b, .int i, .int n']) → H' d.b = some (.lst (bigs.map V.int)) → (∀ b, b ≠ d.a → b ≠ d.b → H' b = H b) → HeapOk K G F ⟨some { d with n := n' }, m.ow⟩ H' := fun n' i bigs H' e1 e2 e3 => h3.deck hdk e3 ⟨cells, bigs, i, e1, e2, hc, fa, fb, nab⟩
  simp only [tSeq, tWhile, tTest, tOp, tVar, tC, tCB, tCons, tNil, tAsg, sSet, gName, tIfS, gSub, tRet, tNext]
  refine ⟨fun n σ' H' => ∃ (i : Nat) (bigs : List Int) (o3 : Option V), σ' = [some (.ref d.a), some (.int many), none, o3] ∧ H' d.a = some (.lst [.ref d.c, .ref d.b, .int i, .int d.n]) ∧ H' d.b = some (.lst (bigs.map V.int)) ∧ (∀ b, b ≠ d.a → b ≠ d.b → H' b = H b) ∧ n = bigs.length - i, ⟨_, i0, bigs, none, rfl, ha, hbb, fun _ _ _ => rfl, rfl⟩, ?_⟩
  rintro n _ H1 ⟨i, bigs, o3, rfl, ea, eb, ee, rfl⟩
  refine ⟨_, rfl, ixL ea rfl ⟨_, rfl, ixL ea rfl ⟨d.b, bigs.map V.int, rfl, .inl (.inl (.of eb)), _, _, rfl, rfl, _, rfl, ?_⟩⟩⟩
  rw [List.length_map]
  by_cases hlt : (i : Int) < (bigs.length : Int)
  · rw [if_pos (by simp only [hlt, decide_true])]
    have hi : i < bigs.length := by omega
    have eat : atI (bigs.map V.int) (i : Int) = some (.int bigs[i]) := atI_nat (by rw [List.getElem?_map, List.getElem?_eq_getElem hi]; rfl)
    refine ⟨_, fun σ' H' q => q, ?_⟩
    refine ⟨_, rfl, ixL ea rfl ⟨_, rfl, ixL ea rfl (ixL eb eat ?_)⟩⟩
    refine ⟨_, rfl, _, _, rfl, rfl, _, rfl, ?_⟩
    by_cases hp : (0 : Int) < bigs[i]
    · rw [if_pos (by simp only [hp, decide_true])]
      refine ⟨_, rfl, _, rfl, _, _, rfl, rfl, ⟨by omega, by
        have : many.natAbs < 2 ^ 30 := by omega
        have := (B.log (n := 30) this)
        omega⟩, ?_⟩
      refine ⟨_, rfl, ixL ea rfl ⟨_, rfl, ixL ea rfl ?_⟩⟩
      refine ⟨d.b, bigs.map V.int, i, i, rfl, rfl, eb, by rw [List.length_map]; unfold ixN; rw [if_pos (by omega), if_pos hlt]; simp, ?_⟩
      refine ⟨_, rfl, _, rfl, _, _, rfl, rfl, hm0, ?_⟩
      have e1 : (bigs.map V.int).set i (.int ((bigs[i]).fdiv many)) = (bigs.set i ((bigs[i]).fdiv many)).map V.int := by rw [List.map_set]
      rw [e1]
      refine h6 _ _ _ _ _ (hR d.n (by omega) _ (Int.emod_nonneg _ (by omega)) (Int.emod_lt_of_pos _ hm0)) (Same.refl _) (okd d.n i _ _ ?_ (upd_same) ?_) (.int _)
      · rw [upd_ne nab]; exact ea
      · intro b q1 q2
        rw [upd_ne q2]
        exact ee b q1 q2
    · rw [if_neg (by simp only [hp, decide_false]; decide)]
      refine ⟨_, rfl, ixL ea rfl ⟨_, _, rfl, rfl, ?_⟩⟩
      refine ⟨_, rfl, d.a, _, 2, 2, rfl, rfl, ea, rfl, ?_⟩
      refine ⟨bigs.length - (i + 1), by omega, i + 1, bigs, _, rfl, ?_, ?_, ?_, rfl⟩
      · rw [upd_same]; rfl
      · rw [upd_ne (Ne.symm nab)]; exact eb
      · intro b q1 q2
        rw [upd_ne q1]
        exact ee b q1 q2
  · rw [if_neg (by simp only [hlt, decide_false]; decide)]
    refine ⟨_, rfl, ixL ea rfl ⟨_, _, rfl, rfl, ?_⟩⟩
    refine ⟨_, rfl, d.a, _, 3, 3, rfl, rfl, ea, rfl, ?_⟩
    have ea2 : upd H1 d.a (.lst [.ref d.c, .ref d.b, .int i, .int ((d.n + 1 : Nat) : Int)]) d.a = some (.lst [.ref d.c, .ref d.b, .int i, .int ((d.n + 1 : Nat) : Int)]) := upd_same
    have hk2 := okd (d.n + 1) i bigs (upd H1 d.a (.lst [.ref d.c, .ref d.b, .int i, .int ((d.n + 1 : Nat) : Int)])) ea2 (by rw [upd_ne (Ne.symm nab)]; exact eb) (fun b q1 q2 => by rw [upd_ne q1]; exact ee b q1 q2)
    show L2.tCall _ _ _ _ _ (upd H1 d.a (.lst [.ref d.c, .ref d.b, .int i, .int ((d.n + 1 : Nat) : Int)])) _
    generalize upd H1 d.a (.lst [.ref d.c, .ref d.b, .int i, .int ((d.n + 1 : Nat) : Int)]) = H2 at ea2 hk2 ⊢
    simp only [tCall, tCons, tNil, tOp, tVar, tC]
    refine ⟨_, rfl, ixL ea2 rfl ⟨_, rfl, ixL ea2 rfl ?_⟩⟩
    refine ⟨[.lst (cells.map D.int), .int ((d.n + 1 : Nat) : Int)] ++ dd, ⟨some { d with n := d.n + 1 }, none⟩, F, ⟨H2, F, some { d with n := d.n + 1 }⟩, _, Reps.append (.cons (.lst hc Reps.of_ints) (.cons (.int _) .nil)) (hr2 F), by simp; omega, hk2.rebase, rfl, hs _ _ (fun r m' => m' = ⟨some { d with n := d.n + 1 }, none⟩ ∧ ∃ r' : Int, 0 ≤ r' ∧ r = .int r') rfl ?_, ?_⟩
    · exact ⟨cells, _, rfl, by omega, by omega, fun r r0 => ⟨rfl, r, r0, rfl⟩⟩
    · rintro r m' v F2 H3 ⟨rfl, r', r0, rfl⟩ s2 hh pr
      cases pr
      have hh2 := hk2.unbase hh
      obtain ⟨cells2, bigs2, i2, ha2, hb2, _⟩ := hh2.dk _ rfl
      have q1 := Int.emod_nonneg r' (show (1000003 : Int) ≠ 0 by decide)
      have q2 := Int.emod_lt_of_pos r' (show (0 : Int) < 1000003 by decide)
      have ha2 : H3 d.a = some (.lst [.ref d.c, .ref d.b, .int i2, .int ((d.n + 1 : Nat) : Int)]) := ha2
      refine ⟨_, _, rfl, rfl, (show (0 : Int) < 1000003 by decide), _, _, rfl, rfl, ?_⟩
      have b1 : B 21 (r' % 1000003 + 5) := B.le (by omega) (by omega)
      have b2 : B 32 (((d.n + 1 : Nat) : Int) + 2) := B.le (by omega) (by omega)
      have b3 : B 32 (((d.n + 1 : Nat) : Int)) := B.le (by omega) (by omega)
      have b4 : B 13 7919 := by unfold B; decide
      have b5 : B 54 ((r' % 1000003 + 5) * (((d.n + 1 : Nat) : Int) + 2) + 7919 * ((d.n + 1 : Nat) : Int)) := ((b1.mul b2).add (b4.mul b3)).mono (by decide)
      refine ⟨_, rfl, ixL ha2 rfl ⟨_, _, rfl, rfl, _, _, rfl, rfl, mulW b1 b2 (by decide), ?_⟩⟩
      refine ⟨_, rfl, ixL ha2 rfl ⟨_, _, rfl, rfl, mulW b4 b3 (by decide), _, _, rfl, rfl, ?_⟩⟩
      have b6 : ((r' % 1000003 + 5) * (((d.n + 1 : Nat) : Int) + 2) + 7919 * ((d.n + 1 : Nat) : Int)).natAbs < 2 ^ 64 := Nat.lt_of_lt_of_le b5 (by decide)
      refine ⟨_, rfl, _, _, rfl, rfl, ⟨by decide, by decide, b6⟩, _, _, rfl, rfl, (show (0 : Int) < 2147483647 by decide), _, _, rfl, rfl, ⟨by decide, by decide⟩, _, rfl, _, _, rfl, rfl, hm0, ?_⟩
      exact h6 _ _ _ _ _ (hR (d.n + 1) (by omega) _ (Int.emod_nonneg _ (by omega)) (Int.emod_lt_of_pos _ hm0)) s2 hh2 (.int _)
end K23
/-! the walks by hand: deck, cell -/
namespace K23
open PySem PySem.Spec PyProof.Rows L2
def ownR (R : D → M → Prop) : D → M → Prop := fun d m' => match d with
  | .lst acc => ∀ p, R (.ref p) ⟨m'.dk, some (p, acc)⟩
  | _ => False
/-- a comprehension's list that may still be changed -/
def dLcOwn (ti : DTi) (g : DTg) (tt : DTt) (te : DT) (vs : List Nat) : DT := fun ds m R => ti ds m fun items m1 => m1.ow = none ∧ dLcL vs g tt te (ownR R) ds none items [] m1.dk
theorem lcOwn_ok {K : PySem.W.Frag} {ti : DTi} {g : DTg} {tt : DTt} {te : DT} {ws vs : List Nat} (hw : ∀ i ∈ ws, i ∈ vs) {σ : L2.St} {H : Hp} {Q : VK} (h : LE K (dLcOwn ti g tt te vs) σ H Q) : tLc (LI K ti) (LG K ws g) (LT K tt) (LE K te) vs σ H Q := by
  obtain ⟨ds, m, F, G, R, he, hh, ht, hk⟩ := h
  refine ⟨ds, m, F, G, _, he, hh, ht, fun items m1 F1 H1 J r1 s1 h1 hJ D0 hD => ?_⟩
  obtain ⟨Gd, Y, w, hGd, hY⟩ := hJ.ex
  have he1 := he.mono s1
  obtain ⟨ow0, r1⟩ := r1
  refine lc_it w (fun i H' => ∃ F' k acc avs, HeapOk K G F' ⟨k, none⟩ H' ∧ Same F1 F' ∧ F' D0 = none ∧ G.B D0 = none ∧ (∀ d, k = some d → D0 ≠ d.a ∧ D0 ≠ d.b) ∧ H' D0 = some (.lst avs) ∧ Reps K F' acc avs ∧ dLcL vs g tt te (ownR R) ds none (items.drop i) acc k) ?_ ?_ ?_ ?_
  · have h1' : HeapOk K G F1 ⟨m1.dk, none⟩ H1 := by
      have e : (⟨m1.dk, none⟩ : M) = m1 := m_none' ow0
      rw [e]; exact h1
    refine ⟨F1, m1.dk, [], [], h1'.junk hD, Same.refl _, h1.freshF hD, h1.freshB hD, fun d e => ?_, upd_same, .nil, r1⟩
    obtain ⟨_, _, _, q1, q2, _⟩ := h1.dk d e
    exact ⟨Ne.symm (ne_of_none q1 hD), Ne.symm (ne_of_none q2 hD)⟩
  · rintro i H' _ ⟨F', k, acc, avs, a1, a2, _⟩
    exact hGd H' (a2.trans a1.sub)
  · rintro i x H' H2 hi ⟨F', k, acc, avs, a1, a2, a3, a4, a5, a7, a8, a9⟩ y
    obtain ⟨d, e1, e2⟩ := drop_cons hi
    rw [e2] at a9
    obtain ⟨F3, b1, b2, b3⟩ := hY i d H' x H2 e1 y ⟨H', F', k⟩ ⟨k, none⟩ F' a2 a1.rebase
    have he3 := ((he1.mono a2).mono b1).wipe vs
    have fin : ∀ (m2 : M) (F6 H6 : Hp), HeapOk K ⟨H', F', k⟩ F6 m2 H6 → HeapOk K G F6 ⟨m2.dk, none⟩ H6 ∧ Same F' F6 ∧ F6 D0 = none ∧ (∀ d, m2.dk = some d → D0 ≠ d.a ∧ D0 ≠ d.b) ∧ H6 D0 = some (.lst avs) := fun m2 F6 H6 h6 => by
      refine ⟨a1.unbase h6, h6.subB, h6.notF a7 a3, fun d e => ?_, h6.keep D0 _ a7 fun d e => a5 d e⟩
      cases ek : k with
      | none =>
        obtain ⟨z1, z2⟩ := h6.dkn d e ek
        exact ⟨ne_of_none a7 z1, ne_of_none a7 z2⟩
      | some d0 =>
        obtain ⟨d2, e3, ea, eb, _⟩ := h6.dk0 d0 ek
        rw [e] at e3
        cases e3
        obtain ⟨z1, z2⟩ := a5 d0 ek
        exact ⟨by rw [ea]; exact z1, by rw [eb]; exact z2⟩
    have nw : ∀ k : Option Dk, ∀ p xs, (⟨k, none⟩ : M).ow = some (p, xs) → D0 ≠ p := fun _ _ _ e => by cases e
    refine ⟨d, _, ⟨k, none⟩, F3, ⟨H', F', k⟩, _, b3, he3, b2, a9, fun ds2 σ2 r2 he2 hwp => ⟨?_, ds2, ⟨k, none⟩, F3, ⟨H', F', k⟩, _, he2, b2, r2, fun b m3 F4 H4 r4 s4 h4 => ?_⟩⟩
    · rw [hwp vs hw]
      exact wipe_wipe
    · cases b with
      | true =>
        refine ⟨ds2, m3, F4, ⟨H', F', k⟩, _, he2.mono s4, h4, r4, fun y m5 v F5 H5 r5 s5 h5 p5 => ?_⟩
        obtain ⟨q1, q2, q3, q4, q5⟩ := fin m5 F5 H5 h5
        exact ⟨avs, q5, Nat.lt_of_lt_of_le (by rw [a8.length]; exact r5.1) (line100 (Nat.le_refl _)), F5, m5.dk, acc ++ [y], avs ++ [v], q1.poke q3 a4 q4 (nw _), a2.trans q2, q3, a4, q4, upd_same, (Reps.mono q2 _ _ a8).append (.cons p5 .nil), r5.2⟩
      | false =>
        obtain ⟨q1, q2, q3, q4, q5⟩ := fin m3 F4 H4 h4
        exact ⟨F4, m3.dk, acc, avs, q1, a2.trans q2, q3, a4, q4, q5, Reps.mono q2 _ _ a8, r4⟩
  · rintro H' ⟨F', k, acc, avs, a1, a2, a3, a4, a5, a7, a8, a9⟩
    rw [List.drop_eq_nil_of_le (Nat.le_refl _)] at a9
    refine hk _ ⟨k, some (D0, acc)⟩ _ F' H' (a9 D0) (s1.trans a2) ?_ (.ref D0)
    refine { sub := a1.sub, subB := a1.subB, fresh := a1.fresh, keep := a1.keep, dk := a1.dk, dkn := a1.dkn, dk0 := a1.dk0, ow := fun p xs e => ?_ }
    cases e
    exact ⟨a3, a4, ⟨avs, a7, a8⟩, a5⟩
section
variable {X : Cx} {pos : Pos} {es : List Expr} {a : Expr} {t : DTa}
theorem de_lcOwn {elt tg2 iter : Expr} {ifs : List Expr} {scope : Scope} {own : List (Str × Nat)} {ws : List Nat} {pos : Pos} {ti : DTi} {g : DTg} {tt : DTt} {te : DT} (hc : X.calm = true) (hN : X.N.Nodup) (hi : DI X tg2 iter ti) (ok : BlkOk X.N X.env.scope scope own) (hw : ∀ i ∈ ws, i ∈ own.map (·.2))
    (hg : ∀ (s : Shared) (H : Hp) (C : Addr) (cl : List (Str × Addr)) (fp : List Addr), DG (X.blk s H scope (compEnvC scope cl C X.env) fp) tg2 ws g) (ht : ∀ (s : Shared) (H : Hp) (C : Addr) (cl : List (Str × Addr)) (fp : List Addr), DTsS (X.blk s H scope (compEnvC scope cl C X.env) fp) ifs tt)
    (he : ∀ (s : Shared) (H : Hp) (C : Addr) (cl : List (Str × Addr)) (fp : List Addr), DE (X.blk s H scope (compEnvC scope cl C X.env) fp) elt te) (hs : ∀ x, foldedSetIterable iter X.env x = pure x := by intro _; rfl) :
    DE X (.ListComp elt [⟨tg2, iter, ifs, 0⟩] scope pos) (dLcOwn ti g tt te (own.map (·.2))) := pe_imp (pe_lc hc hN hi ok hg ht he hs) fun _ _ _ h => lcOwn_ok hw h
def oList : DSp := fun xs m R => match xs with
  | [.lst ys] => R (.lst ys) m
  | _ => False
theorem cList {K : PySem.W.Frag} : CallD K (fun xs H Q => ∃ p ys, xs = [.ref p] ∧ (SqL K H p ys ∨ SqT K H p ys) ∧ ∀ l, H l = none → Q (.ref l) (upd H l (.lst ys))) oList := by
  intro xs vs F G m H R Q p hh ho hk
  unfold oList at ho
  split at ho
  · obtain ⟨v, rfl, r⟩ := reps1 p
    cases r with
    | lst s r => exact ⟨_, _, rfl, .inl (hh.sub.seq s), fin_lst hh r ho hk⟩
  · exact ho.elim
theorem de_list {p : Pos} (hm : X.mg "list" = none) (ha : DA X [a] 1 t) (hg : Gl X "list" := by rfl) (he : starEach [a] X.env = (false, eval a X.env) :: starEach [] X.env := by rfl) : DE X (.Call (.Name "list" p) [a] [] pos) (dCB oList t) := de_callTy call_list_of cList hm ha (by decide +kernel) hg (by decide) (by decide) he rfl
/-- [cells, great cells, 0, 0]: a deck -/
def dDeckL (t : DTa) : DT := fun ds m R => t ds m fun xs m1 => ∃ (cells bigs : List Int) (p : Addr), xs = [.lst (cells.map D.int), .ref p, .int 0, .int 0] ∧ m1.dk = none ∧ m1.ow = some (p, bigs.map D.int) ∧ ∀ d : Dk, d.n = 0 → R (.ref d.a) ⟨some d, none⟩
theorem de_deckL (h : DA X es n t) (hn : n ≤ 1000 := by decide) : DE X (.List es pos) (dDeckL t) := pe_imp (pe_lst h) fun σ H Q ⟨ds, m, F, G, R, he, hh, ht, hk⟩ =>
  ⟨ds, m, F, G, _, he, hh, ht, fun xs m1 vs F1 H1 r1 hl s1 h1 p1 => by
    obtain ⟨cells, bigs, p, rfl, ed, eo, r⟩ := r1
    refine ⟨?_, fun q hq => ?_⟩
    · rw [p1.length]
      exact line100 (by simp)
    · cases p1 with
      | cons q1 p1 =>
      cases p1 with
      | cons q2 p1 =>
      cases p1 with
      | cons q3 p1 =>
      cases p1 with
      | cons q4 p1 =>
      cases p1
      cases q1 with
      | lst sc rc =>
        cases q2
        cases q3
        cases q4
        rename_i c _
        obtain ⟨o1, o2, ⟨ws, o3, o4⟩, o5⟩ := h1.ow p _ eo
        have j := h1.junk (o := .lst [.ref c, .ref p, .int 0, .int 0]) hq
        have np : p ≠ q := ne_of_none o3 hq
        refine hk _ ⟨some ⟨q, p, c, 0⟩, none⟩ _ F1 _ (r ⟨q, p, c, 0⟩ rfl) s1 ?_ (.ref q)
        rw [rc.ints] at sc
        rw [o4.ints] at o3
        refine { sub := j.sub, subB := j.subB, fresh := j.fresh, keep := j.keep, dk := fun d e => ?_, dkn := fun d e _ => ?_, dk0 := fun d e => ?_, ow := fun _ _ e => by cases e }
        · cases e
          exact ⟨cells, bigs, 0, upd_same, by rw [upd_ne np]; exact o3, sc, h1.freshF hq, o1, Ne.symm np⟩
        · cases e
          exact ⟨h1.freshB hq, o2⟩
        · obtain ⟨d', e', _⟩ := h1.dk0 d e
          rw [ed] at e'
          cases e'⟩
end
def t_deckL : DTS := sSeq (sSet 1 (dCB oList (dCons (dSl (dVar 0) dNoPart (dPart (dC (.int 63)))) dNil)))
  (sRet (dDeckL (dCons (dVar 1) (dCons (dLcOwn (iLst (dVar 1)) (gdName 2) (dTst (dGe (dCB oAbs (dCons (dVar 2) dNil)) (dPow (dC (.int 10)) (dC (.int 18))))) (dCB oAbs (dCons (dVar 2) dNil)) [2]) (dCons (dC (.int 0)) (dCons (dC (.int 0)) dNil))))))
theorem walk_deckL {P : Program} {w : World} {K : PySem.W.Frag} {mg : Str → Option Value} {base : Heap} (m_abs : mg "abs" = none) (m_list : mg "list" = none) {f : Addr} (cdv : Value) (A : Around) (outer : List Env) (s : Shared) (H : Hp) (E : XK) (hr : Room 0 (A.deeper (envOfC "_law_deck" (defScope S_deckL) s.heap.objs.size f cdv))) :
    DSs (cxOf CX0 P w K mg base N_deckL "_law_deck" (defScope S_deckL) f cdv A outer s H E).nox (defBody S_deckL) t_deckL :=
  (dss_cons (ds_set 1 sc_deckL.nd (de_list m_list (da_cons (de_sl (de_var 0) do_none (do_some de_int)) da_nil)))
    (dss_one (ds_ret (de_deckL (da_cons (de_var 1) (da_cons (de_lcOwn (own := [("_law_cell_here", 2)]) rfl sc_deckL.nd (di_lst (de_var 1)) (blkOk_by (N := N_deckL) (sc := defScope S_deckL) (by decide +kernel)) (by decide) (fun _ _ _ _ _ => (dg_name (i := 2) sc_deckL.nd)) (fun _ _ _ _ _ => (dts_one (dt_ge (de_abs m_abs (da_cons (de_var 2) da_nil)) (de_pow de_int de_int)))) (fun _ _ _ _ _ => (de_abs m_abs (da_cons (de_var 2) da_nil)))) (da_cons de_int (da_cons de_int da_nil))))))))
theorem cut_ints (ns : List Int) (lo hi : Option Int) : ∃ ms : List Int, cutD (ns.map D.int) lo hi = ms.map D.int ∧ ms.length ≤ ns.length := by
  unfold cutD
  rw [← List.map_drop, ← List.map_take]
  exact ⟨_, rfl, by simp; omega⟩
theorem rd_deckL : Rd 1 3 sp_deckL t_deckL := by
  rintro _ ⟨dk, ow⟩ R - ho ⟨ns, rfl, hl, hdk, h⟩
  cases ho
  cases hdk
  obtain ⟨ms, em, lm⟩ := cut_ints ns none (some 63)
  simp only [t_deckL, sSeq, sSet, sRet, dCB, oList, dCons, dSl, dVar, dNoPart, dPart, dC, dNil, dDeckL, dLcOwn, iLst, startD, List.map, List.length, List.replicate, Nat.sub_self, Nat.reduceSub, Nat.reduceAdd, List.reduceReplicate, List.append_nil, List.nil_append, List.cons_append, List.getElem?_cons_zero, List.getElem?_cons_succ, List.set_cons_zero, List.set_cons_succ, true_and]
  rw [em]
  refine lc_rule (fun items acc k => ∃ (todo done : List Int), items = todo.map D.int ∧ acc = done.map D.int ∧ done.length + todo.length ≤ 63 ∧ k = none) ?_ ?_ _ _ _ ⟨ms, [], rfl, rfl, by simp; omega, rfl⟩
  · rintro x xs acc _ J ⟨todo, done, e1, rfl, hz, rfl⟩ hJ
    cases todo with
    | nil => cases e1
    | cons y todo =>
      cases e1
      simp only [wipeD, gdName, dTst, dBin, dCB, oAbs, dCons, dNil, dVar, oI, oI0, dC, List.getElem?_cons_zero, List.getElem?_cons_succ, List.set_cons_zero, List.set_cons_succ]
      refine ⟨⟨by decide, by decide, by decide⟩, ?_⟩
      split
      · exact ⟨by simp at hz ⊢; omega, hJ _ _ ⟨todo, done ++ [(y.natAbs : Int)], rfl, by simp, by simp at hz ⊢; omega, rfl⟩⟩
      · exact hJ _ _ ⟨todo, done, rfl, rfl, by simp at hz ⊢; omega, rfl⟩
  · rintro acc _ ⟨todo, done, e1, rfl, hz, rfl⟩
    intro p
    simp only [dC]
    exact ⟨ms, done, p, rfl, trivial, rfl, fun d hd => h d hd⟩
end K23
/-! the walks by hand: pair_ways -/
namespace K23
open PySem PySem.Spec PyProof.Rows L2
theorem HeapOk.addTup {K : PySem.W.Frag} {G : Gh} {F H : Hp} {m : M} {t : Addr} {xs : List V} (h : HeapOk K G F m H) (ht : H t = some (.tup xs)) : Same F (upd F t (.tup xs)) ∧ HeapOk K G (upd F t (.tup xs)) m H := by
  have s1 : Same F (upd F t (.tup xs)) := fun b o e => by
    by_cases hb : b = t
    · subst hb
      have := h.sub _ _ e
      rw [ht] at this
      cases this
      exact upd_same
    · rw [upd_ne hb]; exact e
  refine ⟨s1, { sub := fun b o e => ?_, subB := h.subB.trans s1, fresh := fun b o e => ?_, keep := h.keep, dk := fun d e => ?_, dkn := h.dkn, dk0 := h.dk0, ow := fun p ys e => ?_ }⟩
  · by_cases hb : b = t
    · subst hb
      rw [upd_same] at e
      cases e
      exact ht
    · rw [upd_ne hb] at e
      exact h.sub b o e
  · by_cases hb : b = t
    · subst hb
      rw [upd_same] at e
      cases e
      exact .inr (.inr ⟨_, rfl⟩)
    · rw [upd_ne hb] at e
      exact h.fresh b o e
  · have w := h.dk d e
    obtain ⟨_, _, _, h1, h2, _, h4, h5, _⟩ := id w
    refine w.stay s1 rfl rfl ?_ ?_
    · rw [upd_ne (fun z => by rw [z, ht] at h1; cases h1)]; exact h4
    · rw [upd_ne (fun z => by rw [z, ht] at h2; cases h2)]; exact h5
  · obtain ⟨o1, o2, ⟨vs, o3, o4⟩, o5⟩ := h.ow p ys e
    exact ⟨by rw [upd_ne (fun z => by rw [z, ht] at o3; cases o3)]; exact o1, o2, ⟨vs, o3, Reps.mono s1 _ _ o4⟩, o5⟩
theorem HeapOk.addTups {K : PySem.W.Frag} {G : Gh} {H : Hp} {m : M} : ∀ {ys : List V} {qs : List P2} {F : Hp}, HeapOk K G F m H → Paired (PrAt K H) ys qs → ∃ F', Same F F' ∧ HeapOk K G F' m H ∧ Reps K F' (qs.map dPr) ys
  | _, _, F, h, .nil => ⟨F, Same.refl _, h, .nil⟩
  | _, _, F, h, .cons (a := y) (b := q) ⟨t, ey, et⟩ r => by
    obtain ⟨s1, h1⟩ := h.addTup et
    obtain ⟨F', s2, h2, r2⟩ := HeapOk.addTups h1 r
    refine ⟨F', s1.trans s2, h2, ?_⟩
    rw [ey]
    exact .cons (.tup (s2 _ _ upd_same) (.cons (.int _) (.cons (.int _) .nil))) r2
theorem dc_it {J : It} {n : Nat} {G : Hp → Prop} {Y : Nat → Hp → V → Hp → Prop} (w : Walk J n G Y) {g : TG} {tt : TT} {tk tv : TE} {vs : List Nat} {σ : L2.St} {H1 : Hp} {D : Addr} {Qd : Hp → Prop} (Pv : Nat → Hp → Prop) (h0 : Pv 0 (upd H1 D (.dT []))) (hG : ∀ i H, i ≤ n → Pv i H → G H)
    (hs : ∀ i x H H', i < n → Pv i H → Y i H x H' → g x (wipe σ vs) H' fun σ2 H2 => wipe σ2 vs = wipe σ vs ∧ tt σ2 H2 fun b H3 =>
      if b = true then tk σ2 H3 fun y H4 => tv σ2 H4 fun z H5 => ∃ kvs k b, y = .ref b ∧ H5 b = some (.tup (k.map kV)) ∧ H5 D = some (.dT kvs) ∧ kvs.length < sizeLine ∧ Pv (i + 1) (upd H5 D (.dT (putK kvs k z))) else Pv (i + 1) H3) (hd : ∀ H, Pv n H → Qd H) :
    ∃ W : Nat → Nat → Hp → Prop, (∃ m, W 0 m (upd H1 D (.dT []))) ∧ ∀ i m H, W i m H →
      (J.stop i H ∧ Qd H) ∨ (J.go i H ∧ ∃ Nx : Hp → Prop, (∀ H', Nx H' → ∃ m', m' < m ∧ W (i + 1) m' H') ∧ ∀ x H', J.yld i H x H' → g x (wipe σ vs) H' fun σ2 H2 => wipe σ2 vs = wipe σ vs ∧ tt σ2 H2 fun b H3 =>
        if b = true then tk σ2 H3 fun y H4 => tv σ2 H4 fun z H5 => ∃ kvs k b, y = .ref b ∧ H5 b = some (.tup (k.map kV)) ∧ H5 D = some (.dT kvs) ∧ kvs.length < sizeLine ∧ Nx (upd H5 D (.dT (putK kvs k z))) else Nx H3) := by
  refine ⟨fun i m H => m + i = n ∧ Pv i H, ⟨n, by omega, h0⟩, fun i m H ⟨e, p⟩ => ?_⟩
  have gH := hG i H (by omega) p
  by_cases z : i = n
  · subst z
    exact .inl ⟨w.stops H gH, hd H p⟩
  · have hlt : i < n := by omega
    exact .inr ⟨w.goes i H hlt gH, Pv (i + 1), fun H' q => ⟨m - 1, by omega, by omega, q⟩, fun x H' y => hs i x H H' hlt p (w.yields i H x H' hlt gH y)⟩
abbrev kyP (z : P2) : List Key := [Sum.inl z.1, Sum.inl z.2]
abbrev encP (zs : List P2) : List (List Key × V) := zs.map fun z => (kyP z, V.bl true)
def addM (zs : List P2) (z : P2) : List P2 := if z ∈ zs then zs else zs ++ [z]
theorem kyP_inj {a b : P2} (h : kyP a = kyP b) : a = b := by
  simp [kyP] at h
  exact Prod.ext h.1 h.2
theorem put_enc (zs : List P2) (z : P2) : putK (encP zs) (kyP z) (V.bl true) = encP (addM zs z) := by
  unfold putK addM
  by_cases h : z ∈ zs
  · rw [if_pos h, if_pos (List.any_eq_true.mpr ⟨_, List.mem_map.mpr ⟨z, h, rfl⟩, by simp⟩)]
    unfold encP
    rw [List.map_map]
    refine List.map_congr_left fun x _ => ?_
    simp only [Function.comp]
    split <;> rfl
  · rw [if_neg h, if_neg]
    · simp [encP]
    · intro e
      obtain ⟨x, hx, e2⟩ := List.any_eq_true.mp e
      obtain ⟨y, hy, rfl⟩ := List.mem_map.mp hx
      have := kyP_inj (by simpa using e2)
      rw [this] at hy
      exact h hy
theorem add_mem {zs : List P2} {z w : P2} : w ∈ addM zs z ↔ w ∈ zs ∨ w = z := by
  unfold addM
  split
  · constructor
    · exact .inl
    · rintro (h | h)
      · exact h
      · rw [h]; assumption
  · simp
theorem add_len (zs : List P2) (z : P2) : (addM zs z).length ≤ zs.length + 1 := by
  unfold addM
  split <;> simp
theorem keys_pr {K : PySem.W.Frag} {H : Hp} : ∀ {zs : List P2} {bs : List Addr}, IsKeys H (encP zs) bs → Paired (PrAt K H) (bs.map V.ref) zs
  | [], _, h => by
    cases h
    exact .nil
  | z :: zs, _, h => by
    have h : Paired _ (_ :: encP zs) _ := h
    cases h with
    | cons a r => exact .cons ⟨_, rfl, a⟩ (keys_pr r)
/-- what the dict's turn leaves -/
theorem own_keep {K : PySem.W.Frag} {G : Gh} {F' F6 H' H6 : Hp} {k : Option Dk} {m2 : M} {D0 : Addr} {kvs : List (List Key × V)} (a1 : HeapOk K G F' ⟨k, none⟩ H') (a3 : F' D0 = none) (a5 : ∀ d, k = some d → D0 ≠ d.a ∧ D0 ≠ d.b) (a7 : H' D0 = some (.dT kvs)) (h6 : HeapOk K ⟨H', F', k⟩ F6 m2 H6) :
    HeapOk K G F6 ⟨m2.dk, none⟩ H6 ∧ Same F' F6 ∧ F6 D0 = none ∧ (∀ d, m2.dk = some d → D0 ≠ d.a ∧ D0 ≠ d.b) ∧ H6 D0 = some (.dT kvs) := by
  refine ⟨a1.unbase h6, h6.subB, h6.notF a7 a3, fun d e => ?_, h6.keep D0 _ a7 fun d e => a5 d e⟩
  cases ek : k with
  | none =>
    obtain ⟨z1, z2⟩ := h6.dkn d e ek
    exact ⟨ne_of_none a7 z1, ne_of_none a7 z2⟩
  | some d0 =>
    obtain ⟨d2, e3, ea, eb, _⟩ := h6.dk0 d0 ek
    rw [e] at e3
    cases e3
    obtain ⟨z1, z2⟩ := a5 d0 ek
    exact ⟨by rw [ea]; exact z1, by rw [eb]; exact z2⟩
theorem pr_inv {K : PySem.W.Frag} {F : Hp} {z : P2} {v : V} (h : Rep K F (dPr z) v) : ∃ b, v = .ref b ∧ F b = some (.tup ((kyP z).map kV)) := by
  cases h with
  | tup s r =>
    obtain ⟨v1, v2, rfl, r1, r2⟩ := reps2 r
    cases r1
    cases r2
    exact ⟨_, rfl, s⟩
theorem walk_pair_ways {P : Program} {w : World} {K : PySem.W.Frag} {mg : Str → Option Value} {base : Heap} (C_sides : Cal P w K mg base 3 "sides" 1 sp_sides) (C_turned : Cal P w K mg base 1 "turned_way" 1 sp_turned_way) (m_list : mg "list" = none) (m_sorted : mg "sorted" = none) (m_tuple : mg "tuple" = none) {f : Addr} (cdv : Value) (A : Around) (outer : List Env) (s : Shared) (H : Hp) (E : XK) (hr : Room 3 (A.deeper (envOfC "pair_ways" (defScope S_pair_ways) s.heap.objs.size f cdv)))
    (xs : List D) (vs : List V) (m : M) (F : Hp) (G : Gh) (R : D → M → Prop) (Q : VK) (h1 : Reps K F xs vs) (h3 : HeapOk K G F m H) (h4 : m.ow = none) (h5 : sp_pair_ways xs m R) (h6 : Fin K G F R Q) :
    ∃ t : TS, PSs (cxOf CX0 P w K mg base N_pair_ways "pair_ways" (defScope S_pair_ways) f cdv A outer s H E) (defBody S_pair_ways) t ∧ t ⟨fun _ H' => Q .non H', Q, fun _ _ => False, fun _ _ => False⟩ (L2.start N_pair_ways vs) H := by
  have hu : (cxOf CX0 P w K mg base N_pair_ways "pair_ways" (defScope S_pair_ways) f cdv A outer s H E).nox.A.units + 1 < cLine := by
    have := hr.un
    show (A.deeper _).units + 1 < cLine
    omega
  refine ⟨_, PSs.nox (pss_cons (ps_setDcT (i := 2) (own := [("way", 3)]) (wi := LI K (iTupD (dCall sp_sides (dCons (dIxN 1 (dVar 0)) dNil)))) (g := LG K [3] (gdName 3)) (tt := LT K tYesD) (tk := LE K (dVar 3)) (tv := tC (.bl true)) hu rfl sc_pair_ways.nd rfl rfl (sw_trueD rfl rfl rfl (by decide +kernel))
      (di_tup (de_call C_sides hr (by omega) (da_cons (de_ixN (k := 1) (de_var 0)) da_nil))) (blkOk_by (N := N_pair_ways) (sc := defScope S_pair_ways) (by decide +kernel)) (fun _ _ _ _ _ => dg_name (i := 3) sc_pair_ways.nd) (fun _ _ _ _ _ => dts_nil) (fun _ _ _ _ _ => de_var 3) (fun _ _ _ _ _ => pe_bl))
    (pss_cons (ps_for PassesOwn.never rfl (di_tup (de_call C_sides hr (by omega) (da_cons (de_ixN (k := 1) (de_var 1)) da_nil))) (dg_name (i := 3) sc_pair_ways.nd)
      (pss_one (ps_dput hu (pe_var (i := 2) rfl (.inl rfl)) (de_call C_turned hr (by omega) (da_cons (de_var 3) da_nil)) pe_bl rfl)))
    (pss_one (ps_ret (pe_callTy call_tuple_of rfl m_tuple (by decide +kernel) (pa_cons (pe_callB cr_sortedPT rfl m_sorted (by decide +kernel) (pa_cons (pe_callTy (call_list_dT rfl) rfl m_list (by decide +kernel) (pa_cons (pe_var (i := 2) rfl (.inl rfl)) pa_nil)) pa_nil)) pa_nil)))))), ?_⟩
  obtain ⟨a, b, rfl, hp, hR⟩ := h5
  obtain ⟨va, vb, rfl, ra, rb⟩ := reps2 h1
  obtain ⟨dk, ow⟩ := m
  cases h4
  have e0 : ERep K F [some (dB a), some (dB b), none, none] (L2.start N_pair_ways [va, vb]) := ERep.start (N := N_pair_ways) h1
  generalize L2.start N_pair_ways [va, vb] = σ0 at e0 ⊢
  have la : (sidesM a.o.cs).length ≤ 40 := by rw [sides_len]; exact hp.ga.hi
  have lb : (sidesM b.o.cs).length ≤ 40 := by rw [sides_len]; exact hp.gb.hi
  simp only [tSeq, tAsg, tDcT]
  refine ⟨_, ⟨dk, none⟩, F, G, fun items m' => items = (sidesM a.o.cs).map dPr ∧ m' = ⟨dk, none⟩, e0, h3, ?_, ?_⟩
  · simp only [iTupD, dCall, dCons, dIxN, dVar, dNil, oAt, List.getElem?_cons_zero, List.getElem?_cons_succ]
    exact ⟨a.o.cs, rfl, hp.ga, rfl, rfl⟩
  rintro _ _ F1 H1 J ⟨rfl, rfl⟩ s1 k1 hJ D0 hD
  obtain ⟨Gd, Y, wk, hGd, hY⟩ := hJ.ex
  have e1 := e0.mono s1
  have gb : G.B D0 = none := k1.freshB hD
  have ndk : ∀ d, dk = some d → D0 ≠ d.a ∧ D0 ≠ d.b := fun d e => by
    obtain ⟨_, _, _, q1, q2, _⟩ := k1.dk d e
    exact ⟨Ne.symm (ne_of_none q1 hD), Ne.symm (ne_of_none q2 hD)⟩
  have now : ∀ p xs, (⟨dk, none⟩ : M).ow = some (p, xs) → D0 ≠ p := fun _ _ e => by cases e
  refine dc_it wk (fun i H' => ∃ F' zs, HeapOk K G F' ⟨dk, none⟩ H' ∧ Same F1 F' ∧ F' D0 = none ∧ H' D0 = some (.dT (encP zs)) ∧ (∀ w, w ∈ zs ↔ w ∈ (sidesM a.o.cs).take i) ∧ zs.length ≤ i) ?_ ?_ ?_ ?_
  · exact ⟨F1, [], k1.junk hD, Same.refl _, k1.freshF hD, upd_same, by simp, Nat.le_refl _⟩
  · rintro i H' _ ⟨F', zs, a1, a2, _⟩
    exact hGd H' (a2.trans a1.sub)
  · rintro i x H' H2 hi ⟨F', zs, a1, a2, a3, a7, a8, a9⟩ y
    have hi' : i < (sidesM a.o.cs).length := by simpa using hi
    obtain ⟨F3, b1, b2, b3⟩ := hY i (dPr (sidesM a.o.cs)[i]) H' x H2 (by rw [List.getElem?_map, List.getElem?_eq_getElem hi']; rfl) y ⟨H', F', dk⟩ ⟨dk, none⟩ F' a2 a1.rebase
    generalize hwi : (sidesM a.o.cs)[i] = wi at b3
    obtain ⟨q1, q2, q3, _, q5⟩ := own_keep a1 a3 ndk a7 b2
    have he3 := ((e1.mono a2).mono b1).wipe [3]
    refine ⟨dPr wi, _, ⟨dk, none⟩, F3, G, fun ds' => ds' = [some (dB a), some (dB b), none, some (dPr wi)], b3, he3, q1, rfl, fun ds2 σ2 e2 he2 hwp => ⟨?_, ?_⟩⟩
    · show wipe σ2 [3] = wipe σ0 [3]
      rw [hwp [3] fun i hi => hi]
      exact wipe_wipe
    subst e2
    refine ⟨_, ⟨dk, none⟩, F3, ⟨H2, F3, dk⟩, fun b m' => b = true ∧ m' = ⟨dk, none⟩, he2, q1.rebase, ⟨rfl, rfl⟩, fun _ _ F4 H4 ⟨eb, em⟩ s4 h4 => ?_⟩
    subst eb
    subst em
    obtain ⟨r1, r2, r3, _, r5⟩ := own_keep q1 q3 ndk q5 h4
    rw [if_pos rfl]
    refine ⟨_, ⟨dk, none⟩, F4, ⟨H4, F4, dk⟩, fun d m' => d = dPr wi ∧ m' = ⟨dk, none⟩, he2.mono s4, r1.rebase, ⟨rfl, rfl⟩, fun _ _ v F5 H5 ⟨ed, em⟩ s5 h5 p5 => ?_⟩
    subst ed
    subst em
    obtain ⟨t1, t2, t3, _, t5⟩ := own_keep r1 r3 ndk r5 h5
    obtain ⟨bb, rfl, hbb⟩ := pr_inv p5
    have hz : (encP zs).length < sizeLine := by
      have : zs.length < 1000 := by omega
      simp only [List.length_map]
      exact Nat.lt_of_lt_of_le this (by decide)
    refine ⟨encP zs, kyP wi, bb, rfl, h5.sub _ _ hbb, t5, hz, F5, addM zs wi, ?_, a2.trans (q2.trans (r2.trans t2)), t3, ?_, fun w => ?_, ?_⟩
    · exact t1.poke t3 gb ndk now
    · rw [put_enc]
      exact upd_same
    · rw [add_mem, a8 w, ← hwi, List.take_succ_eq_append_getElem hi', List.mem_append, List.mem_singleton]
    · have := add_len zs wi
      omega
  · rintro H2 ⟨F2, zs, a1, a2, a3, a7, a8, a9⟩
    have a8' : ∀ w, w ∈ zs ↔ w ∈ sidesM a.o.cs := fun w => by
      rw [a8 w, List.take_of_length_le (by simp)]
    have a9' : zs.length ≤ 40 := by simp at a9; omega
    have e2 := (e1.mono a2).set (o := some (.ref D0)) (q := some (.ref D0)) (.ref D0) 2
    simp only [gName, tFor]
    refine ⟨_, ⟨dk, none⟩, F2, ⟨H2, F2, dk⟩, fun items m' => items = (sidesM b.o.cs).map dPr ∧ m' = ⟨dk, none⟩, e2, a1.rebase, ?_, ?_⟩
    · simp only [iTupD, dCall, dCons, dIxN, dVar, dNil, oAt, List.getElem?_cons_zero, List.getElem?_cons_succ, List.set_cons_zero, List.set_cons_succ]
      exact ⟨b.o.cs, rfl, hp.gb, rfl, rfl⟩
    rintro _ _ F3 H3 J2 ⟨rfl, rfl⟩ s3 k3 hJ2
    obtain ⟨c1, c2, c3, _, c5⟩ := own_keep a1 a3 ndk a7 k3
    obtain ⟨Gd2, Y2, wk2, hGd2, hY2⟩ := hJ2.ex
    refine for_it wk2 (fun i σ' H' => ∃ F' zs' o3, ERep K F' [some (dB a), some (dB b), some (.ref D0), o3] σ' ∧ HeapOk K G F' ⟨dk, none⟩ H' ∧ Same F3 F' ∧ F' D0 = none ∧ H' D0 = some (.dT (encP zs')) ∧ (∀ w, w ∈ zs' ↔ w ∈ sidesM a.o.cs ∨ w ∈ ((sidesM b.o.cs).map neg).take i) ∧ zs'.length ≤ 40 + i) ⟨F3, zs, none, e2.mono s3, c1, Same.refl _, c3, c5, fun w => by rw [a8' w]; simp, by omega⟩ ?_ ?_ ?_
    · rintro i σ' H' _ ⟨F', zs', o3, _, d1, d2, _⟩
      exact hGd2 H' (d2.trans d1.sub)
    · rintro i x σ' H' H4 hi ⟨F', zs', o3, d0, d1, d2, d3, d7, d8, d9⟩ y
      have hi' : i < (sidesM b.o.cs).length := by simpa using hi
      obtain ⟨F5, b1, b2, b3⟩ := hY2 i (dPr (sidesM b.o.cs)[i]) H' x H4 (by rw [List.getElem?_map, List.getElem?_eq_getElem hi']; rfl) y ⟨H', F', dk⟩ ⟨dk, none⟩ F' d2 d1.rebase
      generalize hwi : (sidesM b.o.cs)[i] = wi at b3
      obtain ⟨q1, q2, q3, _, q5⟩ := own_keep d1 d3 ndk d7 b2
      have he5 := d0.mono b1
      refine ⟨dPr wi, _, ⟨dk, none⟩, F5, G, fun ds' => ds' = [some (dB a), some (dB b), some (.ref D0), some (dPr wi)], b3, he5, q1, rfl, fun ds2 σ2 e2 he6 _ => ?_⟩
      subst e2
      simp only [sDPut, tC, tVar]
      obtain ⟨v, ev, rv⟩ := ERep.get (i := 2) he6 rfl
      cases rv
      refine ⟨_, ev, ?_⟩
      refine ⟨_, ⟨dk, none⟩, F5, ⟨H4, F5, dk⟩, fun d m' => d = dPr (neg wi) ∧ m' = ⟨dk, none⟩, he6, q1.rebase, ?_, fun _ _ v F6 H6 ⟨ed, em⟩ s6 h6' p6 => ?_⟩
      · simp only [dCall, dCons, dVar, dNil, List.getElem?_cons_zero, List.getElem?_cons_succ]
        exact ⟨wi, rfl, rfl, rfl⟩
      subst ed
      subst em
      obtain ⟨t1, t2, t3, _, t5⟩ := own_keep q1 q3 ndk q5 h6'
      obtain ⟨bb, rfl, hbb⟩ := pr_inv p6
      have hz : (encP zs').length < sizeLine := by
        have : zs'.length < 1000 := by omega
        simp only [List.length_map]
        exact Nat.lt_of_lt_of_le this (by decide)
      refine ⟨D0, _, rfl, DPut.t t5 (h6'.sub _ _ hbb) hz, F6, addM zs' (neg wi), _, he6.mono s6, t1.poke t3 gb ndk now, d2.trans (b1.trans t2), t3, ?_, fun w => ?_, ?_⟩
      · rw [put_enc]
        exact upd_same
      · rw [add_mem, d8 w, ← hwi, List.take_succ_eq_append_getElem (by simpa using hi'), List.mem_append, List.mem_singleton, List.getElem_map]
        exact or_assoc
      · have := add_len zs' (neg wi)
        omega
    · rintro σ' H4 ⟨F', zs', o3, d0, d1, d2, d3, d7, d8, d9⟩
      have d8' : ∀ w, w ∈ zs' ↔ w ∈ PW a.o b.o := fun w => by
        rw [d8 w, List.take_of_length_le (by simp)]
        unfold PW
        rw [List.mem_append]
      have d9' : zs'.length ≤ 80 := by simp at d9; omega
      simp only [tRet, tCB, tCons, tNil, tVar]
      obtain ⟨v, ev, rv⟩ := ERep.get (i := 2) d0 rfl
      cases rv
      refine ⟨_, ev, D0, _, rfl, .of d7, fun p bs hpn hks => ?_⟩
      have sp : Same H4 (upd H4 p (.lst (bs.map V.ref))) := fun b o e => by rw [upd_ne (ne_of_none e hpn)]; exact e
      refine ⟨p, bs.map V.ref, zs', H4, rfl, .inl (.of upd_same), sp, keys_pr hks, fun ys qs p2 hpr hperm hlex hp2 => ?_⟩
      refine ⟨p2, ys, rfl, .inl ⟨.inl (.of upd_same), fun l hl => ?_⟩⟩
      obtain ⟨F5, s5, h5, r5⟩ := d1.addTups hpr
      have j1 := h5.junk (o := .lst (bs.map V.ref)) hpn
      have j2 := j1.junk (o := .lst ys) hp2
      obtain ⟨s6, h6''⟩ := j2.new (o := .tup ys) hl
      refine h6 _ ⟨dk, none⟩ _ _ _ (hR qs (fun w => by rw [hperm.mem_iff, d8' w]) (by rw [hperm.length_eq]; exact d9')) (s1.trans (a2.trans (s3.trans (d2.trans (s5.trans s6))))) h6'' (.tup upd_same (Reps.mono s6 _ _ r5))
end K23
set_option maxHeartbeats 0
/-! the head (printed by gen_head.py) -/
namespace K23
open PySem PySem.Spec PyProof.Rows L2

def d_is_whole : He.DefD := ⟨("is_whole", none), "is_whole", "is_whole", defArgs S_is_whole, defBody S_is_whole, defScope S_is_whole, [], []⟩
def d_divisor : He.DefD := ⟨("divisor", none), "divisor", "divisor", defArgs S_divisor, defBody S_divisor, defScope S_divisor, [], []⟩
def d_is_share : He.DefD := ⟨("is_share", none), "is_share", "is_share", defArgs S_is_share, defBody S_is_share, defScope S_is_share, [], []⟩
def d_share : He.DefD := ⟨("share", none), "share", "share", defArgs S_share, defBody S_share, defScope S_share, [.int 1], []⟩
def d_plus : He.DefD := ⟨("plus", none), "plus", "plus", defArgs S_plus, defBody S_plus, defScope S_plus, [], []⟩
def d_minus : He.DefD := ⟨("minus", none), "minus", "minus", defArgs S_minus, defBody S_minus, defScope S_minus, [], []⟩
def d_times : He.DefD := ⟨("times", none), "times", "times", defArgs S_times, defBody S_times, defScope S_times, [], []⟩
def d_over : He.DefD := ⟨("over", none), "over", "over", defArgs S_over, defBody S_over, defScope S_over, [], []⟩
def d_order : He.DefD := ⟨("order", none), "order", "order", defArgs S_order, defBody S_order, defScope S_order, [], []⟩
def d_is_way : He.DefD := ⟨("is_way", none), "is_way", "is_way", defArgs S_is_way, defBody S_is_way, defScope S_is_way, [], []⟩
def d_way_of : He.DefD := ⟨("way_of", none), "way_of", "way_of", defArgs S_way_of, defBody S_way_of, defScope S_way_of, [], []⟩
def d_along : He.DefD := ⟨("along", none), "along", "along", defArgs S_along, defBody S_along, defScope S_along, [], []⟩
def d_spot_minus : He.DefD := ⟨("spot_minus", none), "spot_minus", "spot_minus", defArgs S_spot_minus, defBody S_spot_minus, defScope S_spot_minus, [], []⟩
def d_sides : He.DefD := ⟨("sides", none), "sides", "sides", defArgs S_sides, defBody S_sides, defScope S_sides, [], []⟩
def d_reach : He.DefD := ⟨("reach", none), "reach", "reach", defArgs S_reach, defBody S_reach, defScope S_reach, [], []⟩
def d_turned_way : He.DefD := ⟨("turned_way", none), "turned_way", "turned_way", defArgs S_turned_way, defBody S_turned_way, defScope S_turned_way, [], []⟩
def d_pair_ways : He.DefD := ⟨("pair_ways", none), "pair_ways", "pair_ways", defArgs S_pair_ways, defBody S_pair_ways, defScope S_pair_ways, [], []⟩
def d_rate : He.DefD := ⟨("rate", none), "rate", "rate", defArgs S_rate, defBody S_rate, defScope S_rate, [], []⟩
def d_gap : He.DefD := ⟨("gap", none), "gap", "gap", defArgs S_gap, defBody S_gap, defScope S_gap, [.glo "NOUGHT"], []⟩
def d_names_of : He.DefD := ⟨("names_of", none), "names_of", "names_of", defArgs S_names_of, defBody S_names_of, defScope S_names_of, [], []⟩
def d_upright_ways : He.DefD := ⟨("upright_ways", none), "upright_ways", "upright_ways", defArgs S_upright_ways, defBody S_upright_ways, defScope S_upright_ways, [], []⟩
def d_entered : He.DefD := ⟨("entered", none), "entered", "entered", defArgs S_entered, defBody S_entered, defScope S_entered, [], []⟩
def d_first : He.DefD := ⟨("first", none), "first", "first", defArgs S_first, defBody S_first, defScope S_first, [], []⟩
def d_meets_now : He.DefD := ⟨("meets_now", none), "meets_now", "meets_now", defArgs S_meets_now, defBody S_meets_now, defScope S_meets_now, [], []⟩
def d_first_held : He.DefD := ⟨("first_held", none), "first_held", "first_held", defArgs S_first_held, defBody S_first_held, defScope S_first_held, [], []⟩
def d_cellL : He.DefD := ⟨("_law_cell", none), "_law_cell", "_law_cell", defArgs S_cellL, defBody S_cellL, defScope S_cellL, [], []⟩
def d_deckL : He.DefD := ⟨("_law_deck", none), "_law_deck", "_law_deck", defArgs S_deckL, defBody S_deckL, defScope S_deckL, [], []⟩
def d_takeL : He.DefD := ⟨("_law_take", none), "_law_take", "_law_take", defArgs S_takeL, defBody S_takeL, defScope S_takeL, [], []⟩
def d_longL : He.DefD := ⟨("_law_long", none), "_law_long", "_law_long", defArgs S_longL, defBody S_longL, defScope S_longL, [], []⟩
def d_gcdL : He.DefD := ⟨("_law_gcd", none), "_law_gcd", "_law_gcd", defArgs S_gcdL, defBody S_gcdL, defScope S_gcdL, [], []⟩
def d_shareL : He.DefD := ⟨("_law_share", none), "_law_share", "_law_share", defArgs S_shareL, defBody S_shareL, defScope S_shareL, [], []⟩
def d_plusL : He.DefD := ⟨("_law_plus", none), "_law_plus", "_law_plus", defArgs S_plusL, defBody S_plusL, defScope S_plusL, [], []⟩
def d_timesL : He.DefD := ⟨("_law_times", none), "_law_times", "_law_times", defArgs S_timesL, defBody S_timesL, defScope S_timesL, [], []⟩
def d_spotL : He.DefD := ⟨("_law_spot", none), "_law_spot", "_law_spot", defArgs S_spotL, defBody S_spotL, defScope S_spotL, [], []⟩
def d_spot_plusL : He.DefD := ⟨("_law_spot_plus", none), "_law_spot_plus", "_law_spot_plus", defArgs S_spot_plusL, defBody S_spot_plusL, defScope S_spot_plusL, [], []⟩
def d_spot_timesL : He.DefD := ⟨("_law_spot_times", none), "_law_spot_times", "_law_spot_times", defArgs S_spot_timesL, defBody S_spot_timesL, defScope S_spot_timesL, [], []⟩
def d_leftL : He.DefD := ⟨("_law_left", none), "_law_left", "_law_left", defArgs S_leftL, defBody S_leftL, defScope S_leftL, [], []⟩
def d_halfL : He.DefD := ⟨("_law_half", none), "_law_half", "_law_half", defArgs S_halfL, defBody S_halfL, defScope S_halfL, [], []⟩
def d_numberL : He.DefD := ⟨("_law_number", none), "_law_number", "_law_number", defArgs S_numberL, defBody S_numberL, defScope S_numberL, [], []⟩
def d_eightL : He.DefD := ⟨("_law_eight", none), "_law_eight", "_law_eight", defArgs S_eightL, defBody S_eightL, defScope S_eightL, [], []⟩
def d_shapeL : He.DefD := ⟨("_law_shape", none), "_law_shape", "_law_shape", defArgs S_shapeL, defBody S_shapeL, defScope S_shapeL, [], []⟩
def d_waysL : He.DefD := ⟨("_law_ways", none), "_law_ways", "_law_ways", defArgs S_waysL, defBody S_waysL, defScope S_waysL, [], []⟩
def d_wayL : He.DefD := ⟨("_law_way", none), "_law_way", "_law_way", defArgs S_wayL, defBody S_wayL, defScope S_wayL, [], []⟩
def d_pair_waysL : He.DefD := ⟨("_law_pair_ways", none), "_law_pair_ways", "_law_pair_ways", defArgs S_pair_waysL, defBody S_pair_waysL, defScope S_pair_waysL, [], []⟩
def d_reachL : He.DefD := ⟨("_law_reach", none), "_law_reach", "_law_reach", defArgs S_reachL, defBody S_reachL, defScope S_reachL, [], []⟩
def d_betweenL : He.DefD := ⟨("_law_between", none), "_law_between", "_law_between", defArgs S_betweenL, defBody S_betweenL, defScope S_betweenL, [], []⟩
def d_roomL : He.DefD := ⟨("_law_room", none), "_law_room", "_law_room", defArgs S_roomL, defBody S_roomL, defScope S_roomL, [], []⟩
def d_roomsL : He.DefD := ⟨("_law_rooms", none), "_law_rooms", "_law_rooms", defArgs S_roomsL, defBody S_roomsL, defScope S_roomsL, [], []⟩
def d_overL : He.DefD := ⟨("_law_over", none), "_law_over", "_law_over", defArgs S_overL, defBody S_overL, defScope S_overL, [], []⟩
def d_namesL : He.DefD := ⟨("_law_names", none), "_law_names", "_law_names", defArgs S_namesL, defBody S_namesL, defScope S_namesL, [], []⟩
def d_drawnL : He.DefD := ⟨("_law_drawn", none), "_law_drawn", "_law_drawn", defArgs S_drawnL, defBody S_drawnL, defScope S_drawnL, [], []⟩
def d_rowL : He.DefD := ⟨("_law_row", none), "_law_row", "_law_row", defArgs S_rowL, defBody S_rowL, defScope S_rowL, [], []⟩
def d_pairL : He.DefD := ⟨("_law_pair", none), "_law_pair", "_law_pair", defArgs S_pairL, defBody S_pairL, defScope S_pairL, [], []⟩
def d_untilL : He.DefD := ⟨("_law_until", none), "_law_until", "_law_until", defArgs S_untilL, defBody S_untilL, defScope S_untilL, [], []⟩
def d_crossingsL : He.DefD := ⟨("_law_crossings", none), "_law_crossings", "_law_crossings", defArgs S_crossingsL, defBody S_crossingsL, defScope S_crossingsL, [], []⟩
def d_uprightL : He.DefD := ⟨("_law_upright", none), "_law_upright", "_law_upright", defArgs S_uprightL, defBody S_uprightL, defScope S_uprightL, [], []⟩
def d_turnedL : He.DefD := ⟨("_law_turned", none), "_law_turned", "_law_turned", defArgs S_turnedL, defBody S_turnedL, defScope S_turnedL, [], []⟩
def d_papersL : He.DefD := ⟨("_law_papers", none), "_law_papers", "_law_papers", defArgs S_papersL, defBody S_papersL, defScope S_papersL, [], []⟩
def d_told_is_rightL : He.DefD := ⟨("_law_told_is_right", none), "_law_told_is_right", "_law_told_is_right", defArgs S_told_is_rightL, defBody S_told_is_rightL, defScope S_told_is_rightL, [], []⟩
def d_law : He.DefD := ⟨("law", none), "law", "law", defArgs S_law, defBody S_law, defScope S_law, [], []⟩
def fn : List He.DefD := [d_is_whole, d_divisor, d_is_share, d_share, d_plus, d_minus, d_times, d_over, d_order, d_is_way, d_way_of, d_along, d_spot_minus, d_sides, d_reach, d_turned_way, d_pair_ways, d_rate, d_gap, d_names_of, d_upright_ways, d_entered, d_first, d_meets_now, d_first_held, d_cellL, d_deckL, d_takeL, d_longL, d_gcdL, d_shareL, d_plusL, d_timesL, d_spotL, d_spot_plusL, d_spot_timesL, d_leftL, d_halfL, d_numberL, d_eightL, d_shapeL, d_waysL, d_wayL, d_pair_waysL, d_reachL, d_betweenL, d_roomL, d_roomsL, d_overL, d_namesL, d_drawnL, d_rowL, d_pairL, d_untilL, d_crossingsL, d_uprightL, d_turnedL, d_papersL, d_told_is_rightL, d_law]
def fa : List He.Fa := [.glo "is_whole", .glo "divisor", .glo "is_share", .glo "share", .glo "plus", .glo "minus", .glo "times", .glo "over", .glo "order", .glo "is_way", .glo "way_of", .glo "along", .glo "spot_minus", .glo "sides", .glo "reach", .glo "turned_way", .glo "pair_ways", .glo "rate", .glo "gap", .glo "names_of", .glo "upright_ways", .glo "entered", .glo "first", .glo "meets_now", .glo "first_held", .glo "_law_cell", .glo "_law_deck", .glo "_law_take", .glo "_law_long", .glo "_law_gcd", .glo "_law_share", .glo "_law_plus", .glo "_law_times", .glo "_law_spot", .glo "_law_spot_plus", .glo "_law_spot_times", .glo "_law_left", .glo "_law_half", .glo "_law_number", .glo "_law_eight", .glo "_law_shape", .glo "_law_ways", .glo "_law_way", .glo "_law_pair_ways", .glo "_law_reach", .glo "_law_between", .glo "_law_room", .glo "_law_rooms", .glo "_law_over", .glo "_law_names", .glo "_law_drawn", .glo "_law_row", .glo "_law_pair", .glo "_law_until", .glo "_law_crossings", .glo "_law_upright", .glo "_law_turned", .glo "_law_papers", .glo "_law_told_is_right", .glo "law", .glo "NOUGHT", .free "abs", .free "len", .free "isinstance", .free "tuple", .free "int", .free "bool", .free "list", .free "sorted", .free "max", .free "min", .free "all", .free "zip", .free "range", .free "enumerate"]
def exN (K : PySem.W.Frag) : Bool := He.tupB K "NOUGHT" [.int 0, .int 1]
abbrev R : PySem.W.OpenRow := PySem.W.OpenLaw.row PySem.Challenge.rw_restbodies_k23_whole_first_one_time
abbrev hk : PySem.W.Hook := He.hookX 4 fa fn [] [] exN
def ob (s : PySem.W.SharedT) : He.AlX := He.obsX 4 fa fn [] [] exN (HandSHeadRun.getT s)
theorem ob_eq (s : PySem.W.SharedT) : ob s = hk.obs s.abs := He.obsX_eq (HandSHeadRun.getT_eq s)
def loose0 : List PySem.Str := ["BodyError", "NoShare", "NoWay", "Over", "NOUGHT", "is_whole", "divisor", "is_share", "share", "plus", "minus", "times"]
def loose1 : List PySem.Str := ["over", "order", "is_way", "way_of", "along", "spot_minus", "sides", "reach", "turned_way", "pair_ways", "rate", "gap"]
def loose2 : List PySem.Str := ["names_of", "upright_ways", "entered", "first", "meets_now", "first_held", "_law_cell", "_law_deck", "_law_take", "_law_long", "_law_gcd", "_law_share"]
def loose3 : List PySem.Str := ["_law_plus", "_law_times", "_law_spot", "_law_spot_plus", "_law_spot_times", "_law_left", "_law_half", "_law_number", "_law_eight", "_law_shape", "_law_ways", "_law_way"]
def loose4 : List PySem.Str := ["_law_pair_ways", "_law_reach", "_law_between", "_law_room", "_law_rooms", "_law_over", "_law_names", "_law_drawn", "_law_row", "_law_pair", "_law_until", "_law_crossings"]
def loose5 : List PySem.Str := ["_law_upright", "_law_turned", "_law_papers", "_law_told_is_right"]
def loose : List PySem.Str := loose0 ++ loose1 ++ loose2 ++ loose3 ++ loose4 ++ loose5
theorem run (w : World) : HandSHeadRun.RunEq R (PySem.W.view R.prog [71]) hk ob 4000 loose w := by
  intro os
  kernel_rfl
end K23
/-! the defs joined (gen_join.py) -/
namespace K23
open PySem PySem.Spec PyProof.Rows L2
theorem fn_is_whole {P : Program} {w : World} {K : PySem.W.Frag} {mg : Str → Option Value} {base : Heap} {f : Addr} {fd : FuncData} (m_bool : mg "bool" = none) (m_int : mg "int" = none) (m_isinstance : mg "isinstance" = none) (F : FunD K "is_whole" "is_whole" (defArgs S_is_whole) (defBody S_is_whole) (defScope S_is_whole) [] [] f fd) : FnOk P w K mg base CX0 1 f fd P_is_whole (spD K 1 sp_is_whole) :=
  fn_D F sc_is_whole (fun cdv A outer s H E hr => walk_is_whole m_bool m_int m_isinstance cdv A outer s H E hr) rd_is_whole
theorem cal_is_whole {P : Program} {w : World} {K : PySem.W.Frag} {mg : Str → Option Value} {base : Heap} {f : Addr} {fd : FuncData} (m_bool : mg "bool" = none) (m_int : mg "int" = none) (m_isinstance : mg "isinstance" = none) (F : FunD K "is_whole" "is_whole" (defArgs S_is_whole) (defBody S_is_whole) (defScope S_is_whole) [] [] f fd) (hm : mg "is_whole" = some (.ref f)) : Cal P w K mg base 1 "is_whole" 1 sp_is_whole :=
  cal_of (ps := P_is_whole) (fn_is_whole m_bool m_int m_isinstance F) hm F.kp (F.bindsN fun _ _ _ _ _ _ us hl => match us, hl with | [_], _ => rfl)
theorem fn_divisor {P : Program} {w : World} {K : PySem.W.Frag} {mg : Str → Option Value} {base : Heap} {f : Addr} {fd : FuncData} (m_abs : mg "abs" = none) (F : FunD K "divisor" "divisor" (defArgs S_divisor) (defBody S_divisor) (defScope S_divisor) [] [] f fd) : FnOk P w K mg base CX0 1 f fd P_divisor (spD K 2 sp_divisor) :=
  fn_D F sc_divisor (fun cdv A outer s H E hr => walk_divisor m_abs cdv A outer s H E hr) rd_divisor
theorem cal_divisor {P : Program} {w : World} {K : PySem.W.Frag} {mg : Str → Option Value} {base : Heap} {f : Addr} {fd : FuncData} (m_abs : mg "abs" = none) (F : FunD K "divisor" "divisor" (defArgs S_divisor) (defBody S_divisor) (defScope S_divisor) [] [] f fd) (hm : mg "divisor" = some (.ref f)) : Cal P w K mg base 1 "divisor" 2 sp_divisor :=
  cal_of (ps := P_divisor) (fn_divisor m_abs F) hm F.kp (F.bindsN fun _ _ _ _ _ _ us hl => match us, hl with | [_, _], _ => rfl)
theorem fn_order {P : Program} {w : World} {K : PySem.W.Frag} {mg : Str → Option Value} {base : Heap} {f : Addr} {fd : FuncData}  (F : FunD K "order" "order" (defArgs S_order) (defBody S_order) (defScope S_order) [] [] f fd) : FnOk P w K mg base CX0 1 f fd P_order (spD K 2 sp_order) :=
  fn_D F sc_order (fun cdv A outer s H E hr => walk_order  cdv A outer s H E hr) rd_order
theorem cal_order {P : Program} {w : World} {K : PySem.W.Frag} {mg : Str → Option Value} {base : Heap} {f : Addr} {fd : FuncData}  (F : FunD K "order" "order" (defArgs S_order) (defBody S_order) (defScope S_order) [] [] f fd) (hm : mg "order" = some (.ref f)) : Cal P w K mg base 1 "order" 2 sp_order :=
  cal_of (ps := P_order) (fn_order  F) hm F.kp (F.bindsN fun _ _ _ _ _ _ us hl => match us, hl with | [_, _], _ => rfl)
theorem fn_reach {P : Program} {w : World} {K : PySem.W.Frag} {mg : Str → Option Value} {base : Heap} {f : Addr} {fd : FuncData} (m_max : mg "max" = none) (F : FunD K "reach" "reach" (defArgs S_reach) (defBody S_reach) (defScope S_reach) [] [] f fd) : FnOk P w K mg base CX0 1 f fd P_reach (spD K 2 sp_reach) :=
  fn_D F sc_reach (fun cdv A outer s H E hr => walk_reach m_max cdv A outer s H E hr) rd_reach
theorem cal_reach {P : Program} {w : World} {K : PySem.W.Frag} {mg : Str → Option Value} {base : Heap} {f : Addr} {fd : FuncData} (m_max : mg "max" = none) (F : FunD K "reach" "reach" (defArgs S_reach) (defBody S_reach) (defScope S_reach) [] [] f fd) (hm : mg "reach" = some (.ref f)) : Cal P w K mg base 1 "reach" 2 sp_reach :=
  cal_of (ps := P_reach) (fn_reach m_max F) hm F.kp (F.bindsN fun _ _ _ _ _ _ us hl => match us, hl with | [_, _], _ => rfl)
theorem fn_turned_way {P : Program} {w : World} {K : PySem.W.Frag} {mg : Str → Option Value} {base : Heap} {f : Addr} {fd : FuncData}  (F : FunD K "turned_way" "turned_way" (defArgs S_turned_way) (defBody S_turned_way) (defScope S_turned_way) [] [] f fd) : FnOk P w K mg base CX0 1 f fd P_turned_way (spD K 1 sp_turned_way) :=
  fn_D F sc_turned_way (fun cdv A outer s H E hr => walk_turned_way  cdv A outer s H E hr) rd_turned_way
theorem cal_turned_way {P : Program} {w : World} {K : PySem.W.Frag} {mg : Str → Option Value} {base : Heap} {f : Addr} {fd : FuncData}  (F : FunD K "turned_way" "turned_way" (defArgs S_turned_way) (defBody S_turned_way) (defScope S_turned_way) [] [] f fd) (hm : mg "turned_way" = some (.ref f)) : Cal P w K mg base 1 "turned_way" 1 sp_turned_way :=
  cal_of (ps := P_turned_way) (fn_turned_way  F) hm F.kp (F.bindsN fun _ _ _ _ _ _ us hl => match us, hl with | [_], _ => rfl)
theorem fn_names_of {P : Program} {w : World} {K : PySem.W.Frag} {mg : Str → Option Value} {base : Heap} {f : Addr} {fd : FuncData}  (F : FunD K "names_of" "names_of" (defArgs S_names_of) (defBody S_names_of) (defScope S_names_of) [] [] f fd) : FnOk P w K mg base CX0 1 f fd P_names_of (spD K 2 sp_names_of) :=
  fn_D F sc_names_of (fun cdv A outer s H E hr => dss_never) (fun xs m R _ _ h => h.elim)
theorem cal_names_of {P : Program} {w : World} {K : PySem.W.Frag} {mg : Str → Option Value} {base : Heap} {f : Addr} {fd : FuncData}  (F : FunD K "names_of" "names_of" (defArgs S_names_of) (defBody S_names_of) (defScope S_names_of) [] [] f fd) (hm : mg "names_of" = some (.ref f)) : Cal P w K mg base 1 "names_of" 2 sp_names_of :=
  cal_of (ps := P_names_of) (fn_names_of  F) hm F.kp (F.bindsN fun _ _ _ _ _ _ us hl => match us, hl with | [_, _], _ => rfl)
theorem fn_cellL {P : Program} {w : World} {K : PySem.W.Frag} {mg : Str → Option Value} {base : Heap} {f : Addr} {fd : FuncData} (m_abs : mg "abs" = none) (m_len : mg "len" = none) (F : FunD K "_law_cell" "_law_cell" (defArgs S_cellL) (defBody S_cellL) (defScope S_cellL) [] [] f fd) : FnOk P w K mg base CX0 1 f fd P_cellL (spD K 2 sp_cellL) :=
  fn_D F sc_cellL (fun cdv A outer s H E hr => walk_cellL m_abs m_len cdv A outer s H E hr) rd_cellL
theorem cal_cellL {P : Program} {w : World} {K : PySem.W.Frag} {mg : Str → Option Value} {base : Heap} {f : Addr} {fd : FuncData} (m_abs : mg "abs" = none) (m_len : mg "len" = none) (F : FunD K "_law_cell" "_law_cell" (defArgs S_cellL) (defBody S_cellL) (defScope S_cellL) [] [] f fd) (hm : mg "_law_cell" = some (.ref f)) : Cal P w K mg base 1 "_law_cell" 2 sp_cellL :=
  cal_of (ps := P_cellL) (fn_cellL m_abs m_len F) hm F.kp (F.bindsN fun _ _ _ _ _ _ us hl => match us, hl with | [_, _], _ => rfl)
theorem fn_deckL {P : Program} {w : World} {K : PySem.W.Frag} {mg : Str → Option Value} {base : Heap} {f : Addr} {fd : FuncData} (m_abs : mg "abs" = none) (m_list : mg "list" = none) (F : FunD K "_law_deck" "_law_deck" (defArgs S_deckL) (defBody S_deckL) (defScope S_deckL) [] [] f fd) : FnOk P w K mg base CX0 1 f fd P_deckL (spD K 1 sp_deckL) :=
  fn_D F sc_deckL (fun cdv A outer s H E hr => walk_deckL m_abs m_list cdv A outer s H E hr) rd_deckL
theorem cal_deckL {P : Program} {w : World} {K : PySem.W.Frag} {mg : Str → Option Value} {base : Heap} {f : Addr} {fd : FuncData} (m_abs : mg "abs" = none) (m_list : mg "list" = none) (F : FunD K "_law_deck" "_law_deck" (defArgs S_deckL) (defBody S_deckL) (defScope S_deckL) [] [] f fd) (hm : mg "_law_deck" = some (.ref f)) : Cal P w K mg base 1 "_law_deck" 1 sp_deckL :=
  cal_of (ps := P_deckL) (fn_deckL m_abs m_list F) hm F.kp (F.bindsN fun _ _ _ _ _ _ us hl => match us, hl with | [_], _ => rfl)
theorem fn_gcdL {P : Program} {w : World} {K : PySem.W.Frag} {mg : Str → Option Value} {base : Heap} {f : Addr} {fd : FuncData} (m_abs : mg "abs" = none) (F : FunD K "_law_gcd" "_law_gcd" (defArgs S_gcdL) (defBody S_gcdL) (defScope S_gcdL) [] [] f fd) : FnOk P w K mg base CX0 1 f fd P_gcdL (spD K 2 sp_gcdL) :=
  fn_D F sc_gcdL (fun cdv A outer s H E hr => walk_gcdL m_abs cdv A outer s H E hr) rd_gcdL
theorem cal_gcdL {P : Program} {w : World} {K : PySem.W.Frag} {mg : Str → Option Value} {base : Heap} {f : Addr} {fd : FuncData} (m_abs : mg "abs" = none) (F : FunD K "_law_gcd" "_law_gcd" (defArgs S_gcdL) (defBody S_gcdL) (defScope S_gcdL) [] [] f fd) (hm : mg "_law_gcd" = some (.ref f)) : Cal P w K mg base 1 "_law_gcd" 2 sp_gcdL :=
  cal_of (ps := P_gcdL) (fn_gcdL m_abs F) hm F.kp (F.bindsN fun _ _ _ _ _ _ us hl => match us, hl with | [_, _], _ => rfl)
theorem fn_plusL {P : Program} {w : World} {K : PySem.W.Frag} {mg : Str → Option Value} {base : Heap} {f : Addr} {fd : FuncData}  (F : FunD K "_law_plus" "_law_plus" (defArgs S_plusL) (defBody S_plusL) (defScope S_plusL) [] [] f fd) : FnOk P w K mg base CX0 1 f fd P_plusL (spD K 2 sp_plusL) :=
  fn_D F sc_plusL (fun cdv A outer s H E hr => walk_plusL  cdv A outer s H E hr) rd_plusL
theorem cal_plusL {P : Program} {w : World} {K : PySem.W.Frag} {mg : Str → Option Value} {base : Heap} {f : Addr} {fd : FuncData}  (F : FunD K "_law_plus" "_law_plus" (defArgs S_plusL) (defBody S_plusL) (defScope S_plusL) [] [] f fd) (hm : mg "_law_plus" = some (.ref f)) : Cal P w K mg base 1 "_law_plus" 2 sp_plusL :=
  cal_of (ps := P_plusL) (fn_plusL  F) hm F.kp (F.bindsN fun _ _ _ _ _ _ us hl => match us, hl with | [_, _], _ => rfl)
theorem fn_timesL {P : Program} {w : World} {K : PySem.W.Frag} {mg : Str → Option Value} {base : Heap} {f : Addr} {fd : FuncData}  (F : FunD K "_law_times" "_law_times" (defArgs S_timesL) (defBody S_timesL) (defScope S_timesL) [] [] f fd) : FnOk P w K mg base CX0 1 f fd P_timesL (spD K 2 sp_timesL) :=
  fn_D F sc_timesL (fun cdv A outer s H E hr => walk_timesL  cdv A outer s H E hr) rd_timesL
theorem cal_timesL {P : Program} {w : World} {K : PySem.W.Frag} {mg : Str → Option Value} {base : Heap} {f : Addr} {fd : FuncData}  (F : FunD K "_law_times" "_law_times" (defArgs S_timesL) (defBody S_timesL) (defScope S_timesL) [] [] f fd) (hm : mg "_law_times" = some (.ref f)) : Cal P w K mg base 1 "_law_times" 2 sp_timesL :=
  cal_of (ps := P_timesL) (fn_timesL  F) hm F.kp (F.bindsN fun _ _ _ _ _ _ us hl => match us, hl with | [_, _], _ => rfl)
theorem fn_leftL {P : Program} {w : World} {K : PySem.W.Frag} {mg : Str → Option Value} {base : Heap} {f : Addr} {fd : FuncData}  (F : FunD K "_law_left" "_law_left" (defArgs S_leftL) (defBody S_leftL) (defScope S_leftL) [] [] f fd) : FnOk P w K mg base CX0 1 f fd P_leftL (spD K 3 sp_leftL) :=
  fn_D F sc_leftL (fun cdv A outer s H E hr => walk_leftL  cdv A outer s H E hr) rd_leftL
theorem cal_leftL {P : Program} {w : World} {K : PySem.W.Frag} {mg : Str → Option Value} {base : Heap} {f : Addr} {fd : FuncData}  (F : FunD K "_law_left" "_law_left" (defArgs S_leftL) (defBody S_leftL) (defScope S_leftL) [] [] f fd) (hm : mg "_law_left" = some (.ref f)) : Cal P w K mg base 1 "_law_left" 3 sp_leftL :=
  cal_of (ps := P_leftL) (fn_leftL  F) hm F.kp (F.bindsN fun _ _ _ _ _ _ us hl => match us, hl with | [_, _, _], _ => rfl)
theorem fn_reachL {P : Program} {w : World} {K : PySem.W.Frag} {mg : Str → Option Value} {base : Heap} {f : Addr} {fd : FuncData} (m_max : mg "max" = none) (F : FunD K "_law_reach" "_law_reach" (defArgs S_reachL) (defBody S_reachL) (defScope S_reachL) [] [] f fd) : FnOk P w K mg base CX0 1 f fd P_reachL (spD K 2 sp_reachL) :=
  fn_D F sc_reachL (fun cdv A outer s H E hr => walk_reachL m_max cdv A outer s H E hr) rd_reachL
theorem cal_reachL {P : Program} {w : World} {K : PySem.W.Frag} {mg : Str → Option Value} {base : Heap} {f : Addr} {fd : FuncData} (m_max : mg "max" = none) (F : FunD K "_law_reach" "_law_reach" (defArgs S_reachL) (defBody S_reachL) (defScope S_reachL) [] [] f fd) (hm : mg "_law_reach" = some (.ref f)) : Cal P w K mg base 1 "_law_reach" 2 sp_reachL :=
  cal_of (ps := P_reachL) (fn_reachL m_max F) hm F.kp (F.bindsN fun _ _ _ _ _ _ us hl => match us, hl with | [_, _], _ => rfl)
theorem fn_turnedL {P : Program} {w : World} {K : PySem.W.Frag} {mg : Str → Option Value} {base : Heap} {f : Addr} {fd : FuncData}  (F : FunD K "_law_turned" "_law_turned" (defArgs S_turnedL) (defBody S_turnedL) (defScope S_turnedL) [] [] f fd) : FnOk P w K mg base CX0 1 f fd P_turnedL (spD K 1 sp_turnedL) :=
  fn_D F sc_turnedL (fun cdv A outer s H E hr => walk_turnedL  cdv A outer s H E hr) rd_turnedL
theorem cal_turnedL {P : Program} {w : World} {K : PySem.W.Frag} {mg : Str → Option Value} {base : Heap} {f : Addr} {fd : FuncData}  (F : FunD K "_law_turned" "_law_turned" (defArgs S_turnedL) (defBody S_turnedL) (defScope S_turnedL) [] [] f fd) (hm : mg "_law_turned" = some (.ref f)) : Cal P w K mg base 1 "_law_turned" 1 sp_turnedL :=
  cal_of (ps := P_turnedL) (fn_turnedL  F) hm F.kp (F.bindsN fun _ _ _ _ _ _ us hl => match us, hl with | [_], _ => rfl)
theorem fn_is_share {P : Program} {w : World} {K : PySem.W.Frag} {mg : Str → Option Value} {base : Heap} {f : Addr} {fd : FuncData} (C_divisor : Cal P w K mg base 1 "divisor" 2 sp_divisor) (C_is_whole : Cal P w K mg base 1 "is_whole" 1 sp_is_whole) (m_isinstance : mg "isinstance" = none) (m_len : mg "len" = none) (m_tuple : mg "tuple" = none) (F : FunD K "is_share" "is_share" (defArgs S_is_share) (defBody S_is_share) (defScope S_is_share) [] [] f fd) : FnOk P w K mg base CX0 2 f fd P_is_share (spD K 1 sp_is_share) :=
  fn_D F sc_is_share (fun cdv A outer s H E hr => walk_is_share C_divisor C_is_whole m_isinstance m_len m_tuple cdv A outer s H E hr) rd_is_share
theorem cal_is_share {P : Program} {w : World} {K : PySem.W.Frag} {mg : Str → Option Value} {base : Heap} {f : Addr} {fd : FuncData} (C_divisor : Cal P w K mg base 1 "divisor" 2 sp_divisor) (C_is_whole : Cal P w K mg base 1 "is_whole" 1 sp_is_whole) (m_isinstance : mg "isinstance" = none) (m_len : mg "len" = none) (m_tuple : mg "tuple" = none) (F : FunD K "is_share" "is_share" (defArgs S_is_share) (defBody S_is_share) (defScope S_is_share) [] [] f fd) (hm : mg "is_share" = some (.ref f)) : Cal P w K mg base 2 "is_share" 1 sp_is_share :=
  cal_of (ps := P_is_share) (fn_is_share C_divisor C_is_whole m_isinstance m_len m_tuple F) hm F.kp (F.bindsN fun _ _ _ _ _ _ us hl => match us, hl with | [_], _ => rfl)
theorem fn_share {P : Program} {w : World} {K : PySem.W.Frag} {mg : Str → Option Value} {base : Heap} {f : Addr} {fd : FuncData} (C_divisor : Cal P w K mg base 1 "divisor" 2 sp_divisor) (F : FunD K "share" "share" (defArgs S_share) (defBody S_share) (defScope S_share) [V.int 1] [] f fd) : FnOk P w K mg base CX0 2 f fd P_share (spD K 2 sp_share) :=
  fn_D F sc_share (fun cdv A outer s H E hr => walk_share C_divisor cdv A outer s H E hr) rd_share
theorem bind_share {K : PySem.W.Frag} {f : Addr} {fd : FuncData} (F : FunD K "share" "share" (defArgs S_share) (defBody S_share) (defScope S_share) [V.int 1] [] f fd) : Binds K fd P_share [] := by
  obtain ⟨ds, v, b⟩ := F.binds1 (ps := P_share) 2 1 (by simp) rfl fun T kV doc pm an cdv ct us its hu hi => match us, its, hu, hi with | [_, _], [_], _, _ => ⟨_, rfl, rfl⟩
  cases v
  exact b
theorem cal_share {P : Program} {w : World} {K : PySem.W.Frag} {mg : Str → Option Value} {base : Heap} {f : Addr} {fd : FuncData} (C_divisor : Cal P w K mg base 1 "divisor" 2 sp_divisor) (F : FunD K "share" "share" (defArgs S_share) (defBody S_share) (defScope S_share) [V.int 1] [] f fd) (hm : mg "share" = some (.ref f)) : Cal P w K mg base 2 "share" 2 sp_share :=
  cal_of (ps := P_share) (fn_share C_divisor F) hm F.kp (bind_share F)
theorem fn_is_way {P : Program} {w : World} {K : PySem.W.Frag} {mg : Str → Option Value} {base : Heap} {f : Addr} {fd : FuncData} (C_divisor : Cal P w K mg base 1 "divisor" 2 sp_divisor) (C_is_whole : Cal P w K mg base 1 "is_whole" 1 sp_is_whole) (m_all : mg "all" = none) (m_isinstance : mg "isinstance" = none) (m_len : mg "len" = none) (m_tuple : mg "tuple" = none) (F : FunD K "is_way" "is_way" (defArgs S_is_way) (defBody S_is_way) (defScope S_is_way) [] [] f fd) : FnOk P w K mg base CX0 2 f fd P_is_way (spD K 1 sp_is_way) :=
  fn_D F sc_is_way (fun cdv A outer s H E hr => walk_is_way C_divisor C_is_whole m_all m_isinstance m_len m_tuple cdv A outer s H E hr) rd_is_way
theorem cal_is_way {P : Program} {w : World} {K : PySem.W.Frag} {mg : Str → Option Value} {base : Heap} {f : Addr} {fd : FuncData} (C_divisor : Cal P w K mg base 1 "divisor" 2 sp_divisor) (C_is_whole : Cal P w K mg base 1 "is_whole" 1 sp_is_whole) (m_all : mg "all" = none) (m_isinstance : mg "isinstance" = none) (m_len : mg "len" = none) (m_tuple : mg "tuple" = none) (F : FunD K "is_way" "is_way" (defArgs S_is_way) (defBody S_is_way) (defScope S_is_way) [] [] f fd) (hm : mg "is_way" = some (.ref f)) : Cal P w K mg base 2 "is_way" 1 sp_is_way :=
  cal_of (ps := P_is_way) (fn_is_way C_divisor C_is_whole m_all m_isinstance m_len m_tuple F) hm F.kp (F.bindsN fun _ _ _ _ _ _ us hl => match us, hl with | [_], _ => rfl)
theorem fn_way_of {P : Program} {w : World} {K : PySem.W.Frag} {mg : Str → Option Value} {base : Heap} {f : Addr} {fd : FuncData} (C_divisor : Cal P w K mg base 1 "divisor" 2 sp_divisor) (F : FunD K "way_of" "way_of" (defArgs S_way_of) (defBody S_way_of) (defScope S_way_of) [] [] f fd) : FnOk P w K mg base CX0 2 f fd P_way_of (spD K 2 sp_way_of) :=
  fn_D F sc_way_of (fun cdv A outer s H E hr => walk_way_of C_divisor cdv A outer s H E hr) rd_way_of
theorem cal_way_of {P : Program} {w : World} {K : PySem.W.Frag} {mg : Str → Option Value} {base : Heap} {f : Addr} {fd : FuncData} (C_divisor : Cal P w K mg base 1 "divisor" 2 sp_divisor) (F : FunD K "way_of" "way_of" (defArgs S_way_of) (defBody S_way_of) (defScope S_way_of) [] [] f fd) (hm : mg "way_of" = some (.ref f)) : Cal P w K mg base 2 "way_of" 2 sp_way_of :=
  cal_of (ps := P_way_of) (fn_way_of C_divisor F) hm F.kp (F.bindsN fun _ _ _ _ _ _ us hl => match us, hl with | [_, _], _ => rfl)
theorem fn_takeL {P : Program} {w : World} {K : PySem.W.Frag} {mg : Str → Option Value} {base : Heap} {f : Addr} {fd : FuncData} (C_cellL : Cal P w K mg base 1 "_law_cell" 2 sp_cellL) (m_len : mg "len" = none) (F : FunD K "_law_take" "_law_take" (defArgs S_takeL) (defBody S_takeL) (defScope S_takeL) [] [] f fd) : FnOk P w K mg base CX0 2 f fd P_takeL (spD K 2 sp_takeL) :=
  F.ok sc_takeL (fun vs H Q E h => by
    obtain ⟨xs, m, F1, G, R, h1, h2, _⟩ := h
    rw [h1.length, h2]
    rfl) (fun cdv A outer s H vs Q E hr h => by
    obtain ⟨xs, m, F1, G, R, h1, h2, h3, h4, h5, h6⟩ := h
    exact walk_takeL C_cellL m_len cdv A outer s H E hr xs vs m F1 G R Q h1 h3 h4 h5 h6)
theorem cal_takeL {P : Program} {w : World} {K : PySem.W.Frag} {mg : Str → Option Value} {base : Heap} {f : Addr} {fd : FuncData} (C_cellL : Cal P w K mg base 1 "_law_cell" 2 sp_cellL) (m_len : mg "len" = none) (F : FunD K "_law_take" "_law_take" (defArgs S_takeL) (defBody S_takeL) (defScope S_takeL) [] [] f fd) (hm : mg "_law_take" = some (.ref f)) : Cal P w K mg base 2 "_law_take" 2 sp_takeL :=
  cal_of (ps := P_takeL) (fn_takeL C_cellL m_len F) hm F.kp (F.bindsN fun _ _ _ _ _ _ us hl => match us, hl with | [_, _], _ => rfl)
theorem fn_shareL {P : Program} {w : World} {K : PySem.W.Frag} {mg : Str → Option Value} {base : Heap} {f : Addr} {fd : FuncData} (C_gcdL : Cal P w K mg base 1 "_law_gcd" 2 sp_gcdL) (F : FunD K "_law_share" "_law_share" (defArgs S_shareL) (defBody S_shareL) (defScope S_shareL) [] [] f fd) : FnOk P w K mg base CX0 2 f fd P_shareL (spD K 2 sp_shareL) :=
  fn_D F sc_shareL (fun cdv A outer s H E hr => walk_shareL C_gcdL cdv A outer s H E hr) rd_shareL
theorem cal_shareL {P : Program} {w : World} {K : PySem.W.Frag} {mg : Str → Option Value} {base : Heap} {f : Addr} {fd : FuncData} (C_gcdL : Cal P w K mg base 1 "_law_gcd" 2 sp_gcdL) (F : FunD K "_law_share" "_law_share" (defArgs S_shareL) (defBody S_shareL) (defScope S_shareL) [] [] f fd) (hm : mg "_law_share" = some (.ref f)) : Cal P w K mg base 2 "_law_share" 2 sp_shareL :=
  cal_of (ps := P_shareL) (fn_shareL C_gcdL F) hm F.kp (F.bindsN fun _ _ _ _ _ _ us hl => match us, hl with | [_, _], _ => rfl)
theorem fn_spot_plusL {P : Program} {w : World} {K : PySem.W.Frag} {mg : Str → Option Value} {base : Heap} {f : Addr} {fd : FuncData} (C_plusL : Cal P w K mg base 1 "_law_plus" 2 sp_plusL) (F : FunD K "_law_spot_plus" "_law_spot_plus" (defArgs S_spot_plusL) (defBody S_spot_plusL) (defScope S_spot_plusL) [] [] f fd) : FnOk P w K mg base CX0 2 f fd P_spot_plusL (spD K 2 sp_spot_plusL) :=
  fn_D F sc_spot_plusL (fun cdv A outer s H E hr => walk_spot_plusL C_plusL cdv A outer s H E hr) rd_spot_plusL
theorem cal_spot_plusL {P : Program} {w : World} {K : PySem.W.Frag} {mg : Str → Option Value} {base : Heap} {f : Addr} {fd : FuncData} (C_plusL : Cal P w K mg base 1 "_law_plus" 2 sp_plusL) (F : FunD K "_law_spot_plus" "_law_spot_plus" (defArgs S_spot_plusL) (defBody S_spot_plusL) (defScope S_spot_plusL) [] [] f fd) (hm : mg "_law_spot_plus" = some (.ref f)) : Cal P w K mg base 2 "_law_spot_plus" 2 sp_spot_plusL :=
  cal_of (ps := P_spot_plusL) (fn_spot_plusL C_plusL F) hm F.kp (F.bindsN fun _ _ _ _ _ _ us hl => match us, hl with | [_, _], _ => rfl)
theorem fn_spot_timesL {P : Program} {w : World} {K : PySem.W.Frag} {mg : Str → Option Value} {base : Heap} {f : Addr} {fd : FuncData} (C_timesL : Cal P w K mg base 1 "_law_times" 2 sp_timesL) (F : FunD K "_law_spot_times" "_law_spot_times" (defArgs S_spot_timesL) (defBody S_spot_timesL) (defScope S_spot_timesL) [] [] f fd) : FnOk P w K mg base CX0 2 f fd P_spot_timesL (spD K 2 sp_spot_timesL) :=
  fn_D F sc_spot_timesL (fun cdv A outer s H E hr => walk_spot_timesL C_timesL cdv A outer s H E hr) rd_spot_timesL
theorem cal_spot_timesL {P : Program} {w : World} {K : PySem.W.Frag} {mg : Str → Option Value} {base : Heap} {f : Addr} {fd : FuncData} (C_timesL : Cal P w K mg base 1 "_law_times" 2 sp_timesL) (F : FunD K "_law_spot_times" "_law_spot_times" (defArgs S_spot_timesL) (defBody S_spot_timesL) (defScope S_spot_timesL) [] [] f fd) (hm : mg "_law_spot_times" = some (.ref f)) : Cal P w K mg base 2 "_law_spot_times" 2 sp_spot_timesL :=
  cal_of (ps := P_spot_timesL) (fn_spot_timesL C_timesL F) hm F.kp (F.bindsN fun _ _ _ _ _ _ us hl => match us, hl with | [_, _], _ => rfl)
theorem fn_halfL {P : Program} {w : World} {K : PySem.W.Frag} {mg : Str → Option Value} {base : Heap} {f : Addr} {fd : FuncData} (C_leftL : Cal P w K mg base 1 "_law_left" 3 sp_leftL) (m_len : mg "len" = none) (F : FunD K "_law_half" "_law_half" (defArgs S_halfL) (defBody S_halfL) (defScope S_halfL) [] [] f fd) : FnOk P w K mg base CX0 2 f fd P_halfL (spD K 1 sp_halfL) :=
  fn_D F sc_halfL (fun cdv A outer s H E hr => walk_halfL C_leftL m_len cdv A outer s H E hr) rd_halfL
theorem cal_halfL {P : Program} {w : World} {K : PySem.W.Frag} {mg : Str → Option Value} {base : Heap} {f : Addr} {fd : FuncData} (C_leftL : Cal P w K mg base 1 "_law_left" 3 sp_leftL) (m_len : mg "len" = none) (F : FunD K "_law_half" "_law_half" (defArgs S_halfL) (defBody S_halfL) (defScope S_halfL) [] [] f fd) (hm : mg "_law_half" = some (.ref f)) : Cal P w K mg base 2 "_law_half" 1 sp_halfL :=
  cal_of (ps := P_halfL) (fn_halfL C_leftL m_len F) hm F.kp (F.bindsN fun _ _ _ _ _ _ us hl => match us, hl with | [_], _ => rfl)
theorem fn_wayL {P : Program} {w : World} {K : PySem.W.Frag} {mg : Str → Option Value} {base : Heap} {f : Addr} {fd : FuncData} (C_gcdL : Cal P w K mg base 1 "_law_gcd" 2 sp_gcdL) (F : FunD K "_law_way" "_law_way" (defArgs S_wayL) (defBody S_wayL) (defScope S_wayL) [] [] f fd) : FnOk P w K mg base CX0 2 f fd P_wayL (spD K 2 sp_wayL) :=
  fn_D F sc_wayL (fun cdv A outer s H E hr => walk_wayL C_gcdL cdv A outer s H E hr) rd_wayL
theorem cal_wayL {P : Program} {w : World} {K : PySem.W.Frag} {mg : Str → Option Value} {base : Heap} {f : Addr} {fd : FuncData} (C_gcdL : Cal P w K mg base 1 "_law_gcd" 2 sp_gcdL) (F : FunD K "_law_way" "_law_way" (defArgs S_wayL) (defBody S_wayL) (defScope S_wayL) [] [] f fd) (hm : mg "_law_way" = some (.ref f)) : Cal P w K mg base 2 "_law_way" 2 sp_wayL :=
  cal_of (ps := P_wayL) (fn_wayL C_gcdL F) hm F.kp (F.bindsN fun _ _ _ _ _ _ us hl => match us, hl with | [_, _], _ => rfl)
theorem fn_roomL {P : Program} {w : World} {K : PySem.W.Frag} {mg : Str → Option Value} {base : Heap} {f : Addr} {fd : FuncData} (C_reachL : Cal P w K mg base 1 "_law_reach" 2 sp_reachL) (F : FunD K "_law_room" "_law_room" (defArgs S_roomL) (defBody S_roomL) (defScope S_roomL) [] [] f fd) : FnOk P w K mg base CX0 2 f fd P_roomL (spD K 4 sp_roomL) :=
  fn_D F sc_roomL (fun cdv A outer s H E hr => walk_roomL C_reachL cdv A outer s H E hr) rd_roomL
theorem cal_roomL {P : Program} {w : World} {K : PySem.W.Frag} {mg : Str → Option Value} {base : Heap} {f : Addr} {fd : FuncData} (C_reachL : Cal P w K mg base 1 "_law_reach" 2 sp_reachL) (F : FunD K "_law_room" "_law_room" (defArgs S_roomL) (defBody S_roomL) (defScope S_roomL) [] [] f fd) (hm : mg "_law_room" = some (.ref f)) : Cal P w K mg base 2 "_law_room" 4 sp_roomL :=
  cal_of (ps := P_roomL) (fn_roomL C_reachL F) hm F.kp (F.bindsN fun _ _ _ _ _ _ us hl => match us, hl with | [_, _, _, _], _ => rfl)
theorem fn_plus {P : Program} {w : World} {K : PySem.W.Frag} {mg : Str → Option Value} {base : Heap} {f : Addr} {fd : FuncData} (C_share : Cal P w K mg base 2 "share" 2 sp_share) (F : FunD K "plus" "plus" (defArgs S_plus) (defBody S_plus) (defScope S_plus) [] [] f fd) : FnOk P w K mg base CX0 3 f fd P_plus (spD K 2 sp_plus) :=
  fn_D F sc_plus (fun cdv A outer s H E hr => walk_plus C_share cdv A outer s H E hr) rd_plus
theorem cal_plus {P : Program} {w : World} {K : PySem.W.Frag} {mg : Str → Option Value} {base : Heap} {f : Addr} {fd : FuncData} (C_share : Cal P w K mg base 2 "share" 2 sp_share) (F : FunD K "plus" "plus" (defArgs S_plus) (defBody S_plus) (defScope S_plus) [] [] f fd) (hm : mg "plus" = some (.ref f)) : Cal P w K mg base 3 "plus" 2 sp_plus :=
  cal_of (ps := P_plus) (fn_plus C_share F) hm F.kp (F.bindsN fun _ _ _ _ _ _ us hl => match us, hl with | [_, _], _ => rfl)
theorem fn_minus {P : Program} {w : World} {K : PySem.W.Frag} {mg : Str → Option Value} {base : Heap} {f : Addr} {fd : FuncData} (C_share : Cal P w K mg base 2 "share" 2 sp_share) (F : FunD K "minus" "minus" (defArgs S_minus) (defBody S_minus) (defScope S_minus) [] [] f fd) : FnOk P w K mg base CX0 3 f fd P_minus (spD K 2 sp_minus) :=
  fn_D F sc_minus (fun cdv A outer s H E hr => walk_minus C_share cdv A outer s H E hr) rd_minus
theorem cal_minus {P : Program} {w : World} {K : PySem.W.Frag} {mg : Str → Option Value} {base : Heap} {f : Addr} {fd : FuncData} (C_share : Cal P w K mg base 2 "share" 2 sp_share) (F : FunD K "minus" "minus" (defArgs S_minus) (defBody S_minus) (defScope S_minus) [] [] f fd) (hm : mg "minus" = some (.ref f)) : Cal P w K mg base 3 "minus" 2 sp_minus :=
  cal_of (ps := P_minus) (fn_minus C_share F) hm F.kp (F.bindsN fun _ _ _ _ _ _ us hl => match us, hl with | [_, _], _ => rfl)
theorem fn_times {P : Program} {w : World} {K : PySem.W.Frag} {mg : Str → Option Value} {base : Heap} {f : Addr} {fd : FuncData} (C_share : Cal P w K mg base 2 "share" 2 sp_share) (F : FunD K "times" "times" (defArgs S_times) (defBody S_times) (defScope S_times) [] [] f fd) : FnOk P w K mg base CX0 3 f fd P_times (spD K 2 sp_times) :=
  fn_D F sc_times (fun cdv A outer s H E hr => walk_times C_share cdv A outer s H E hr) rd_times
theorem cal_times {P : Program} {w : World} {K : PySem.W.Frag} {mg : Str → Option Value} {base : Heap} {f : Addr} {fd : FuncData} (C_share : Cal P w K mg base 2 "share" 2 sp_share) (F : FunD K "times" "times" (defArgs S_times) (defBody S_times) (defScope S_times) [] [] f fd) (hm : mg "times" = some (.ref f)) : Cal P w K mg base 3 "times" 2 sp_times :=
  cal_of (ps := P_times) (fn_times C_share F) hm F.kp (F.bindsN fun _ _ _ _ _ _ us hl => match us, hl with | [_, _], _ => rfl)
theorem fn_over {P : Program} {w : World} {K : PySem.W.Frag} {mg : Str → Option Value} {base : Heap} {f : Addr} {fd : FuncData} (C_share : Cal P w K mg base 2 "share" 2 sp_share) (F : FunD K "over" "over" (defArgs S_over) (defBody S_over) (defScope S_over) [] [] f fd) : FnOk P w K mg base CX0 3 f fd P_over (spD K 2 sp_over) :=
  fn_D F sc_over (fun cdv A outer s H E hr => walk_over C_share cdv A outer s H E hr) rd_over
theorem cal_over {P : Program} {w : World} {K : PySem.W.Frag} {mg : Str → Option Value} {base : Heap} {f : Addr} {fd : FuncData} (C_share : Cal P w K mg base 2 "share" 2 sp_share) (F : FunD K "over" "over" (defArgs S_over) (defBody S_over) (defScope S_over) [] [] f fd) (hm : mg "over" = some (.ref f)) : Cal P w K mg base 3 "over" 2 sp_over :=
  cal_of (ps := P_over) (fn_over C_share F) hm F.kp (F.bindsN fun _ _ _ _ _ _ us hl => match us, hl with | [_, _], _ => rfl)
theorem fn_along {P : Program} {w : World} {K : PySem.W.Frag} {mg : Str → Option Value} {base : Heap} {f : Addr} {fd : FuncData} (C_share : Cal P w K mg base 2 "share" 2 sp_share) (F : FunD K "along" "along" (defArgs S_along) (defBody S_along) (defScope S_along) [] [] f fd) : FnOk P w K mg base CX0 3 f fd P_along (spD K 2 sp_along) :=
  fn_D F sc_along (fun cdv A outer s H E hr => walk_along C_share cdv A outer s H E hr) rd_along
theorem cal_along {P : Program} {w : World} {K : PySem.W.Frag} {mg : Str → Option Value} {base : Heap} {f : Addr} {fd : FuncData} (C_share : Cal P w K mg base 2 "share" 2 sp_share) (F : FunD K "along" "along" (defArgs S_along) (defBody S_along) (defScope S_along) [] [] f fd) (hm : mg "along" = some (.ref f)) : Cal P w K mg base 3 "along" 2 sp_along :=
  cal_of (ps := P_along) (fn_along C_share F) hm F.kp (F.bindsN fun _ _ _ _ _ _ us hl => match us, hl with | [_, _], _ => rfl)
theorem fn_sides {P : Program} {w : World} {K : PySem.W.Frag} {mg : Str → Option Value} {base : Heap} {f : Addr} {fd : FuncData} (C_way_of : Cal P w K mg base 2 "way_of" 2 sp_way_of) (m_tuple : mg "tuple" = none) (m_zip : mg "zip" = none) (F : FunD K "sides" "sides" (defArgs S_sides) (defBody S_sides) (defScope S_sides) [] [] f fd) : FnOk P w K mg base CX0 3 f fd P_sides (spD K 1 sp_sides) :=
  fn_D F sc_sides (fun cdv A outer s H E hr => walk_sides C_way_of m_tuple m_zip cdv A outer s H E hr) rd_sides
theorem cal_sides {P : Program} {w : World} {K : PySem.W.Frag} {mg : Str → Option Value} {base : Heap} {f : Addr} {fd : FuncData} (C_way_of : Cal P w K mg base 2 "way_of" 2 sp_way_of) (m_tuple : mg "tuple" = none) (m_zip : mg "zip" = none) (F : FunD K "sides" "sides" (defArgs S_sides) (defBody S_sides) (defScope S_sides) [] [] f fd) (hm : mg "sides" = some (.ref f)) : Cal P w K mg base 3 "sides" 1 sp_sides :=
  cal_of (ps := P_sides) (fn_sides C_way_of m_tuple m_zip F) hm F.kp (F.bindsN fun _ _ _ _ _ _ us hl => match us, hl with | [_], _ => rfl)
theorem fn_longL {P : Program} {w : World} {K : PySem.W.Frag} {mg : Str → Option Value} {base : Heap} {f : Addr} {fd : FuncData} (C_takeL : Cal P w K mg base 2 "_law_take" 2 sp_takeL) (m_range : mg "range" = none) (F : FunD K "_law_long" "_law_long" (defArgs S_longL) (defBody S_longL) (defScope S_longL) [] [] f fd) : FnOk P w K mg base CX0 3 f fd P_longL (spD K 2 sp_longL) :=
  fn_D F sc_longL (fun cdv A outer s H E hr => walk_longL C_takeL m_range cdv A outer s H E hr) rd_longL
theorem cal_longL {P : Program} {w : World} {K : PySem.W.Frag} {mg : Str → Option Value} {base : Heap} {f : Addr} {fd : FuncData} (C_takeL : Cal P w K mg base 2 "_law_take" 2 sp_takeL) (m_range : mg "range" = none) (F : FunD K "_law_long" "_law_long" (defArgs S_longL) (defBody S_longL) (defScope S_longL) [] [] f fd) (hm : mg "_law_long" = some (.ref f)) : Cal P w K mg base 3 "_law_long" 2 sp_longL :=
  cal_of (ps := P_longL) (fn_longL C_takeL m_range F) hm F.kp (F.bindsN fun _ _ _ _ _ _ us hl => match us, hl with | [_, _], _ => rfl)
theorem fn_spotL {P : Program} {w : World} {K : PySem.W.Frag} {mg : Str → Option Value} {base : Heap} {f : Addr} {fd : FuncData} (C_shareL : Cal P w K mg base 2 "_law_share" 2 sp_shareL) (F : FunD K "_law_spot" "_law_spot" (defArgs S_spotL) (defBody S_spotL) (defScope S_spotL) [] [] f fd) : FnOk P w K mg base CX0 3 f fd P_spotL (spD K 1 sp_spotL) :=
  fn_D F sc_spotL (fun cdv A outer s H E hr => walk_spotL C_shareL cdv A outer s H E hr) rd_spotL
theorem cal_spotL {P : Program} {w : World} {K : PySem.W.Frag} {mg : Str → Option Value} {base : Heap} {f : Addr} {fd : FuncData} (C_shareL : Cal P w K mg base 2 "_law_share" 2 sp_shareL) (F : FunD K "_law_spot" "_law_spot" (defArgs S_spotL) (defBody S_spotL) (defScope S_spotL) [] [] f fd) (hm : mg "_law_spot" = some (.ref f)) : Cal P w K mg base 3 "_law_spot" 1 sp_spotL :=
  cal_of (ps := P_spotL) (fn_spotL C_shareL F) hm F.kp (F.bindsN fun _ _ _ _ _ _ us hl => match us, hl with | [_], _ => rfl)
theorem fn_waysL {P : Program} {w : World} {K : PySem.W.Frag} {mg : Str → Option Value} {base : Heap} {f : Addr} {fd : FuncData} (C_wayL : Cal P w K mg base 2 "_law_way" 2 sp_wayL) (m_enumerate : mg "enumerate" = none) (m_len : mg "len" = none) (F : FunD K "_law_ways" "_law_ways" (defArgs S_waysL) (defBody S_waysL) (defScope S_waysL) [] [] f fd) : FnOk P w K mg base CX0 3 f fd P_waysL (spD K 1 sp_waysL) :=
  fn_D F sc_waysL (fun cdv A outer s H E hr => walk_waysL C_wayL m_enumerate m_len cdv A outer s H E hr) rd_waysL
theorem cal_waysL {P : Program} {w : World} {K : PySem.W.Frag} {mg : Str → Option Value} {base : Heap} {f : Addr} {fd : FuncData} (C_wayL : Cal P w K mg base 2 "_law_way" 2 sp_wayL) (m_enumerate : mg "enumerate" = none) (m_len : mg "len" = none) (F : FunD K "_law_ways" "_law_ways" (defArgs S_waysL) (defBody S_waysL) (defScope S_waysL) [] [] f fd) (hm : mg "_law_ways" = some (.ref f)) : Cal P w K mg base 3 "_law_ways" 1 sp_waysL :=
  cal_of (ps := P_waysL) (fn_waysL C_wayL m_enumerate m_len F) hm F.kp (F.bindsN fun _ _ _ _ _ _ us hl => match us, hl with | [_], _ => rfl)
theorem fn_betweenL {P : Program} {w : World} {K : PySem.W.Frag} {mg : Str → Option Value} {base : Heap} {f : Addr} {fd : FuncData} (C_spot_plusL : Cal P w K mg base 2 "_law_spot_plus" 2 sp_spot_plusL) (C_spot_timesL : Cal P w K mg base 2 "_law_spot_times" 2 sp_spot_timesL) (F : FunD K "_law_between" "_law_between" (defArgs S_betweenL) (defBody S_betweenL) (defScope S_betweenL) [] [] f fd) : FnOk P w K mg base CX0 3 f fd P_betweenL (spD K 3 sp_betweenL) :=
  fn_D F sc_betweenL (fun cdv A outer s H E hr => walk_betweenL C_spot_plusL C_spot_timesL cdv A outer s H E hr) rd_betweenL
theorem cal_betweenL {P : Program} {w : World} {K : PySem.W.Frag} {mg : Str → Option Value} {base : Heap} {f : Addr} {fd : FuncData} (C_spot_plusL : Cal P w K mg base 2 "_law_spot_plus" 2 sp_spot_plusL) (C_spot_timesL : Cal P w K mg base 2 "_law_spot_times" 2 sp_spot_timesL) (F : FunD K "_law_between" "_law_between" (defArgs S_betweenL) (defBody S_betweenL) (defScope S_betweenL) [] [] f fd) (hm : mg "_law_between" = some (.ref f)) : Cal P w K mg base 3 "_law_between" 3 sp_betweenL :=
  cal_of (ps := P_betweenL) (fn_betweenL C_spot_plusL C_spot_timesL F) hm F.kp (F.bindsN fun _ _ _ _ _ _ us hl => match us, hl with | [_, _, _], _ => rfl)
theorem fn_namesL {P : Program} {w : World} {K : PySem.W.Frag} {mg : Str → Option Value} {base : Heap} {f : Addr} {fd : FuncData} (C_takeL : Cal P w K mg base 2 "_law_take" 2 sp_takeL) (m_len : mg "len" = none) (m_range : mg "range" = none) (F : FunD K "_law_names" "_law_names" (defArgs S_namesL) (defBody S_namesL) (defScope S_namesL) [] [] f fd) : FnOk P w K mg base CX0 3 f fd P_namesL (spD K 1 sp_namesL) :=
  fn_D F sc_namesL (fun cdv A outer s H E hr => walk_namesL C_takeL m_len m_range cdv A outer s H E hr) rd_namesL
theorem cal_namesL {P : Program} {w : World} {K : PySem.W.Frag} {mg : Str → Option Value} {base : Heap} {f : Addr} {fd : FuncData} (C_takeL : Cal P w K mg base 2 "_law_take" 2 sp_takeL) (m_len : mg "len" = none) (m_range : mg "range" = none) (F : FunD K "_law_names" "_law_names" (defArgs S_namesL) (defBody S_namesL) (defScope S_namesL) [] [] f fd) (hm : mg "_law_names" = some (.ref f)) : Cal P w K mg base 3 "_law_names" 1 sp_namesL :=
  cal_of (ps := P_namesL) (fn_namesL C_takeL m_len m_range F) hm F.kp (F.bindsN fun _ _ _ _ _ _ us hl => match us, hl with | [_], _ => rfl)
theorem fn_untilL {P : Program} {w : World} {K : PySem.W.Frag} {mg : Str → Option Value} {base : Heap} {f : Addr} {fd : FuncData} (C_shareL : Cal P w K mg base 2 "_law_share" 2 sp_shareL) (C_takeL : Cal P w K mg base 2 "_law_take" 2 sp_takeL) (F : FunD K "_law_until" "_law_until" (defArgs S_untilL) (defBody S_untilL) (defScope S_untilL) [] [] f fd) : FnOk P w K mg base CX0 3 f fd P_untilL (spD K 2 sp_untilL) :=
  fn_D F sc_untilL (fun cdv A outer s H E hr => walk_untilL C_shareL C_takeL cdv A outer s H E hr) rd_untilL
theorem cal_untilL {P : Program} {w : World} {K : PySem.W.Frag} {mg : Str → Option Value} {base : Heap} {f : Addr} {fd : FuncData} (C_shareL : Cal P w K mg base 2 "_law_share" 2 sp_shareL) (C_takeL : Cal P w K mg base 2 "_law_take" 2 sp_takeL) (F : FunD K "_law_until" "_law_until" (defArgs S_untilL) (defBody S_untilL) (defScope S_untilL) [] [] f fd) (hm : mg "_law_until" = some (.ref f)) : Cal P w K mg base 3 "_law_until" 2 sp_untilL :=
  cal_of (ps := P_untilL) (fn_untilL C_shareL C_takeL F) hm F.kp (F.bindsN fun _ _ _ _ _ _ us hl => match us, hl with | [_, _], _ => rfl)
theorem fn_uprightL {P : Program} {w : World} {K : PySem.W.Frag} {mg : Str → Option Value} {base : Heap} {f : Addr} {fd : FuncData} (C_spot_plusL : Cal P w K mg base 2 "_law_spot_plus" 2 sp_spot_plusL) (C_spot_timesL : Cal P w K mg base 2 "_law_spot_times" 2 sp_spot_timesL) (C_wayL : Cal P w K mg base 2 "_law_way" 2 sp_wayL) (F : FunD K "_law_upright" "_law_upright" (defArgs S_uprightL) (defBody S_uprightL) (defScope S_uprightL) [] [] f fd) : FnOk P w K mg base CX0 3 f fd P_uprightL (spD K 2 sp_uprightL) :=
  fn_D F sc_uprightL (fun cdv A outer s H E hr => walk_uprightL C_spot_plusL C_spot_timesL C_wayL cdv A outer s H E hr) rd_uprightL
theorem cal_uprightL {P : Program} {w : World} {K : PySem.W.Frag} {mg : Str → Option Value} {base : Heap} {f : Addr} {fd : FuncData} (C_spot_plusL : Cal P w K mg base 2 "_law_spot_plus" 2 sp_spot_plusL) (C_spot_timesL : Cal P w K mg base 2 "_law_spot_times" 2 sp_spot_timesL) (C_wayL : Cal P w K mg base 2 "_law_way" 2 sp_wayL) (F : FunD K "_law_upright" "_law_upright" (defArgs S_uprightL) (defBody S_uprightL) (defScope S_uprightL) [] [] f fd) (hm : mg "_law_upright" = some (.ref f)) : Cal P w K mg base 3 "_law_upright" 2 sp_uprightL :=
  cal_of (ps := P_uprightL) (fn_uprightL C_spot_plusL C_spot_timesL C_wayL F) hm F.kp (F.bindsN fun _ _ _ _ _ _ us hl => match us, hl with | [_, _], _ => rfl)
theorem fn_spot_minus {P : Program} {w : World} {K : PySem.W.Frag} {mg : Str → Option Value} {base : Heap} {f : Addr} {fd : FuncData} (C_minus : Cal P w K mg base 3 "minus" 2 sp_minus) (m_tuple : mg "tuple" = none) (m_zip : mg "zip" = none) (F : FunD K "spot_minus" "spot_minus" (defArgs S_spot_minus) (defBody S_spot_minus) (defScope S_spot_minus) [] [] f fd) : FnOk P w K mg base CX0 4 f fd P_spot_minus (spD K 2 sp_spot_minus) :=
  fn_D F sc_spot_minus (fun cdv A outer s H E hr => walk_spot_minus C_minus m_tuple m_zip cdv A outer s H E hr) rd_spot_minus
theorem cal_spot_minus {P : Program} {w : World} {K : PySem.W.Frag} {mg : Str → Option Value} {base : Heap} {f : Addr} {fd : FuncData} (C_minus : Cal P w K mg base 3 "minus" 2 sp_minus) (m_tuple : mg "tuple" = none) (m_zip : mg "zip" = none) (F : FunD K "spot_minus" "spot_minus" (defArgs S_spot_minus) (defBody S_spot_minus) (defScope S_spot_minus) [] [] f fd) (hm : mg "spot_minus" = some (.ref f)) : Cal P w K mg base 4 "spot_minus" 2 sp_spot_minus :=
  cal_of (ps := P_spot_minus) (fn_spot_minus C_minus m_tuple m_zip F) hm F.kp (F.bindsN fun _ _ _ _ _ _ us hl => match us, hl with | [_, _], _ => rfl)
theorem fn_pair_ways {P : Program} {w : World} {K : PySem.W.Frag} {mg : Str → Option Value} {base : Heap} {f : Addr} {fd : FuncData} (C_sides : Cal P w K mg base 3 "sides" 1 sp_sides) (C_turned_way : Cal P w K mg base 1 "turned_way" 1 sp_turned_way) (m_list : mg "list" = none) (m_sorted : mg "sorted" = none) (m_tuple : mg "tuple" = none) (F : FunD K "pair_ways" "pair_ways" (defArgs S_pair_ways) (defBody S_pair_ways) (defScope S_pair_ways) [] [] f fd) : FnOk P w K mg base CX0 4 f fd P_pair_ways (spD K 2 sp_pair_ways) :=
  F.ok sc_pair_ways (fun vs H Q E h => by
    obtain ⟨xs, m, F1, G, R, h1, h2, _⟩ := h
    rw [h1.length, h2]
    rfl) (fun cdv A outer s H vs Q E hr h => by
    obtain ⟨xs, m, F1, G, R, h1, h2, h3, h4, h5, h6⟩ := h
    exact walk_pair_ways C_sides C_turned_way m_list m_sorted m_tuple cdv A outer s H E hr xs vs m F1 G R Q h1 h3 h4 h5 h6)
theorem cal_pair_ways {P : Program} {w : World} {K : PySem.W.Frag} {mg : Str → Option Value} {base : Heap} {f : Addr} {fd : FuncData} (C_sides : Cal P w K mg base 3 "sides" 1 sp_sides) (C_turned_way : Cal P w K mg base 1 "turned_way" 1 sp_turned_way) (m_list : mg "list" = none) (m_sorted : mg "sorted" = none) (m_tuple : mg "tuple" = none) (F : FunD K "pair_ways" "pair_ways" (defArgs S_pair_ways) (defBody S_pair_ways) (defScope S_pair_ways) [] [] f fd) (hm : mg "pair_ways" = some (.ref f)) : Cal P w K mg base 4 "pair_ways" 2 sp_pair_ways :=
  cal_of (ps := P_pair_ways) (fn_pair_ways C_sides C_turned_way m_list m_sorted m_tuple F) hm F.kp (F.bindsN fun _ _ _ _ _ _ us hl => match us, hl with | [_, _], _ => rfl)
theorem fn_entered {P : Program} {w : World} {K : PySem.W.Frag} {mg : Str → Option Value} {base : Heap} {f : Addr} {fd : FuncData} (C_order : Cal P w K mg base 1 "order" 2 sp_order) (C_over : Cal P w K mg base 3 "over" 2 sp_over) (F : FunD K "entered" "entered" (defArgs S_entered) (defBody S_entered) (defScope S_entered) [] [] f fd) : FnOk P w K mg base CX0 4 f fd P_entered (spD K 1 sp_entered) :=
  fn_D F sc_entered (fun cdv A outer s H E hr => walk_entered C_order C_over cdv A outer s H E hr) rd_entered
theorem cal_entered {P : Program} {w : World} {K : PySem.W.Frag} {mg : Str → Option Value} {base : Heap} {f : Addr} {fd : FuncData} (C_order : Cal P w K mg base 1 "order" 2 sp_order) (C_over : Cal P w K mg base 3 "over" 2 sp_over) (F : FunD K "entered" "entered" (defArgs S_entered) (defBody S_entered) (defScope S_entered) [] [] f fd) (hm : mg "entered" = some (.ref f)) : Cal P w K mg base 4 "entered" 1 sp_entered :=
  cal_of (ps := P_entered) (fn_entered C_order C_over F) hm F.kp (F.bindsN fun _ _ _ _ _ _ us hl => match us, hl with | [_], _ => rfl)
theorem fn_numberL {P : Program} {w : World} {K : PySem.W.Frag} {mg : Str → Option Value} {base : Heap} {f : Addr} {fd : FuncData} (C_longL : Cal P w K mg base 3 "_law_long" 2 sp_longL) (C_takeL : Cal P w K mg base 2 "_law_take" 2 sp_takeL) (F : FunD K "_law_number" "_law_number" (defArgs S_numberL) (defBody S_numberL) (defScope S_numberL) [] [] f fd) : FnOk P w K mg base CX0 4 f fd P_numberL (spD K 2 sp_numberL) :=
  fn_D F sc_numberL (fun cdv A outer s H E hr => walk_numberL C_longL C_takeL cdv A outer s H E hr) rd_numberL
theorem cal_numberL {P : Program} {w : World} {K : PySem.W.Frag} {mg : Str → Option Value} {base : Heap} {f : Addr} {fd : FuncData} (C_longL : Cal P w K mg base 3 "_law_long" 2 sp_longL) (C_takeL : Cal P w K mg base 2 "_law_take" 2 sp_takeL) (F : FunD K "_law_number" "_law_number" (defArgs S_numberL) (defBody S_numberL) (defScope S_numberL) [] [] f fd) (hm : mg "_law_number" = some (.ref f)) : Cal P w K mg base 4 "_law_number" 2 sp_numberL :=
  cal_of (ps := P_numberL) (fn_numberL C_longL C_takeL F) hm F.kp (F.bindsN fun _ _ _ _ _ _ us hl => match us, hl with | [_, _], _ => rfl)
theorem fn_pair_waysL {P : Program} {w : World} {K : PySem.W.Frag} {mg : Str → Option Value} {base : Heap} {f : Addr} {fd : FuncData} (C_waysL : Cal P w K mg base 3 "_law_ways" 1 sp_waysL) (m_sorted : mg "sorted" = none) (F : FunD K "_law_pair_ways" "_law_pair_ways" (defArgs S_pair_waysL) (defBody S_pair_waysL) (defScope S_pair_waysL) [] [] f fd) : FnOk P w K mg base CX0 4 f fd P_pair_waysL (spD K 2 sp_pair_waysL) :=
  fn_D F sc_pair_waysL (fun cdv A outer s H E hr => walk_pair_waysL C_waysL m_sorted cdv A outer s H E hr) rd_pair_waysL
theorem cal_pair_waysL {P : Program} {w : World} {K : PySem.W.Frag} {mg : Str → Option Value} {base : Heap} {f : Addr} {fd : FuncData} (C_waysL : Cal P w K mg base 3 "_law_ways" 1 sp_waysL) (m_sorted : mg "sorted" = none) (F : FunD K "_law_pair_ways" "_law_pair_ways" (defArgs S_pair_waysL) (defBody S_pair_waysL) (defScope S_pair_waysL) [] [] f fd) (hm : mg "_law_pair_ways" = some (.ref f)) : Cal P w K mg base 4 "_law_pair_ways" 2 sp_pair_waysL :=
  cal_of (ps := P_pair_waysL) (fn_pair_waysL C_waysL m_sorted F) hm F.kp (F.bindsN fun _ _ _ _ _ _ us hl => match us, hl with | [_, _], _ => rfl)
theorem fn_drawnL {P : Program} {w : World} {K : PySem.W.Frag} {mg : Str → Option Value} {base : Heap} {f : Addr} {fd : FuncData} (C_longL : Cal P w K mg base 3 "_law_long" 2 sp_longL) (C_shareL : Cal P w K mg base 2 "_law_share" 2 sp_shareL) (C_takeL : Cal P w K mg base 2 "_law_take" 2 sp_takeL) (F : FunD K "_law_drawn" "_law_drawn" (defArgs S_drawnL) (defBody S_drawnL) (defScope S_drawnL) [] [] f fd) : FnOk P w K mg base CX0 4 f fd P_drawnL (spD K 2 sp_drawnL) :=
  fn_D F sc_drawnL (fun cdv A outer s H E hr => walk_drawnL C_longL C_shareL C_takeL cdv A outer s H E hr) rd_drawnL
theorem cal_drawnL {P : Program} {w : World} {K : PySem.W.Frag} {mg : Str → Option Value} {base : Heap} {f : Addr} {fd : FuncData} (C_longL : Cal P w K mg base 3 "_law_long" 2 sp_longL) (C_shareL : Cal P w K mg base 2 "_law_share" 2 sp_shareL) (C_takeL : Cal P w K mg base 2 "_law_take" 2 sp_takeL) (F : FunD K "_law_drawn" "_law_drawn" (defArgs S_drawnL) (defBody S_drawnL) (defScope S_drawnL) [] [] f fd) (hm : mg "_law_drawn" = some (.ref f)) : Cal P w K mg base 4 "_law_drawn" 2 sp_drawnL :=
  cal_of (ps := P_drawnL) (fn_drawnL C_longL C_shareL C_takeL F) hm F.kp (F.bindsN fun _ _ _ _ _ _ us hl => match us, hl with | [_, _], _ => rfl)
theorem fn_rate {P : Program} {w : World} {K : PySem.W.Frag} {mg : Str → Option Value} {base : Heap} {f : Addr} {fd : FuncData} (C_along : Cal P w K mg base 3 "along" 2 sp_along) (C_spot_minus : Cal P w K mg base 4 "spot_minus" 2 sp_spot_minus) (F : FunD K "rate" "rate" (defArgs S_rate) (defBody S_rate) (defScope S_rate) [] [] f fd) : FnOk P w K mg base CX0 5 f fd P_rate (spD K 3 sp_rate) :=
  fn_D F sc_rate (fun cdv A outer s H E hr => walk_rate C_along C_spot_minus cdv A outer s H E hr) rd_rate
theorem cal_rate {P : Program} {w : World} {K : PySem.W.Frag} {mg : Str → Option Value} {base : Heap} {f : Addr} {fd : FuncData} (C_along : Cal P w K mg base 3 "along" 2 sp_along) (C_spot_minus : Cal P w K mg base 4 "spot_minus" 2 sp_spot_minus) (F : FunD K "rate" "rate" (defArgs S_rate) (defBody S_rate) (defScope S_rate) [] [] f fd) (hm : mg "rate" = some (.ref f)) : Cal P w K mg base 5 "rate" 3 sp_rate :=
  cal_of (ps := P_rate) (fn_rate C_along C_spot_minus F) hm F.kp (F.bindsN fun _ _ _ _ _ _ us hl => match us, hl with | [_, _, _], _ => rfl)
theorem fn_upright_ways {P : Program} {w : World} {K : PySem.W.Frag} {mg : Str → Option Value} {base : Heap} {f : Addr} {fd : FuncData} (C_spot_minus : Cal P w K mg base 4 "spot_minus" 2 sp_spot_minus) (C_way_of : Cal P w K mg base 2 "way_of" 2 sp_way_of) (F : FunD K "upright_ways" "upright_ways" (defArgs S_upright_ways) (defBody S_upright_ways) (defScope S_upright_ways) [] [] f fd) : FnOk P w K mg base CX0 5 f fd P_upright_ways (spD K 2 sp_upright_ways) :=
  fn_D F sc_upright_ways (fun cdv A outer s H E hr => walk_upright_ways C_spot_minus C_way_of cdv A outer s H E hr) rd_upright_ways
theorem cal_upright_ways {P : Program} {w : World} {K : PySem.W.Frag} {mg : Str → Option Value} {base : Heap} {f : Addr} {fd : FuncData} (C_spot_minus : Cal P w K mg base 4 "spot_minus" 2 sp_spot_minus) (C_way_of : Cal P w K mg base 2 "way_of" 2 sp_way_of) (F : FunD K "upright_ways" "upright_ways" (defArgs S_upright_ways) (defBody S_upright_ways) (defScope S_upright_ways) [] [] f fd) (hm : mg "upright_ways" = some (.ref f)) : Cal P w K mg base 5 "upright_ways" 2 sp_upright_ways :=
  cal_of (ps := P_upright_ways) (fn_upright_ways C_spot_minus C_way_of F) hm F.kp (F.bindsN fun _ _ _ _ _ _ us hl => match us, hl with | [_, _], _ => rfl)
theorem fn_eightL {P : Program} {w : World} {K : PySem.W.Frag} {mg : Str → Option Value} {base : Heap} {f : Addr} {fd : FuncData} (C_numberL : Cal P w K mg base 4 "_law_number" 2 sp_numberL) (m_abs : mg "abs" = none) (m_range : mg "range" = none) (m_tuple : mg "tuple" = none) (F : FunD K "_law_eight" "_law_eight" (defArgs S_eightL) (defBody S_eightL) (defScope S_eightL) [] [] f fd) : FnOk P w K mg base CX0 5 f fd P_eightL (spD K 2 sp_eightL) :=
  fn_D F sc_eightL (fun cdv A outer s H E hr => walk_eightL C_numberL m_abs m_range m_tuple cdv A outer s H E hr) rd_eightL
theorem cal_eightL {P : Program} {w : World} {K : PySem.W.Frag} {mg : Str → Option Value} {base : Heap} {f : Addr} {fd : FuncData} (C_numberL : Cal P w K mg base 4 "_law_number" 2 sp_numberL) (m_abs : mg "abs" = none) (m_range : mg "range" = none) (m_tuple : mg "tuple" = none) (F : FunD K "_law_eight" "_law_eight" (defArgs S_eightL) (defBody S_eightL) (defScope S_eightL) [] [] f fd) (hm : mg "_law_eight" = some (.ref f)) : Cal P w K mg base 5 "_law_eight" 2 sp_eightL :=
  cal_of (ps := P_eightL) (fn_eightL C_numberL m_abs m_range m_tuple F) hm F.kp (F.bindsN fun _ _ _ _ _ _ us hl => match us, hl with | [_, _], _ => rfl)
theorem fn_roomsL {P : Program} {w : World} {K : PySem.W.Frag} {mg : Str → Option Value} {base : Heap} {f : Addr} {fd : FuncData} (C_betweenL : Cal P w K mg base 3 "_law_between" 3 sp_betweenL) (C_pair_waysL : Cal P w K mg base 4 "_law_pair_ways" 2 sp_pair_waysL) (C_roomL : Cal P w K mg base 2 "_law_room" 4 sp_roomL) (F : FunD K "_law_rooms" "_law_rooms" (defArgs S_roomsL) (defBody S_roomsL) (defScope S_roomsL) [] [] f fd) : FnOk P w K mg base CX0 5 f fd P_roomsL (spD K 3 sp_roomsL) :=
  fn_D F sc_roomsL (fun cdv A outer s H E hr => walk_roomsL C_betweenL C_pair_waysL C_roomL cdv A outer s H E hr) rd_roomsL
theorem cal_roomsL {P : Program} {w : World} {K : PySem.W.Frag} {mg : Str → Option Value} {base : Heap} {f : Addr} {fd : FuncData} (C_betweenL : Cal P w K mg base 3 "_law_between" 3 sp_betweenL) (C_pair_waysL : Cal P w K mg base 4 "_law_pair_ways" 2 sp_pair_waysL) (C_roomL : Cal P w K mg base 2 "_law_room" 4 sp_roomL) (F : FunD K "_law_rooms" "_law_rooms" (defArgs S_roomsL) (defBody S_roomsL) (defScope S_roomsL) [] [] f fd) (hm : mg "_law_rooms" = some (.ref f)) : Cal P w K mg base 5 "_law_rooms" 3 sp_roomsL :=
  cal_of (ps := P_roomsL) (fn_roomsL C_betweenL C_pair_waysL C_roomL F) hm F.kp (F.bindsN fun _ _ _ _ _ _ us hl => match us, hl with | [_, _, _], _ => rfl)
theorem fn_crossingsL {P : Program} {w : World} {K : PySem.W.Frag} {mg : Str → Option Value} {base : Heap} {f : Addr} {fd : FuncData} (C_betweenL : Cal P w K mg base 3 "_law_between" 3 sp_betweenL) (C_pair_waysL : Cal P w K mg base 4 "_law_pair_ways" 2 sp_pair_waysL) (C_roomL : Cal P w K mg base 2 "_law_room" 4 sp_roomL) (C_shareL : Cal P w K mg base 2 "_law_share" 2 sp_shareL) (F : FunD K "_law_crossings" "_law_crossings" (defArgs S_crossingsL) (defBody S_crossingsL) (defScope S_crossingsL) [] [] f fd) : FnOk P w K mg base CX0 5 f fd P_crossingsL (spD K 2 sp_crossingsL) :=
  fn_D F sc_crossingsL (fun cdv A outer s H E hr => walk_crossingsL C_betweenL C_pair_waysL C_roomL C_shareL cdv A outer s H E hr) rd_crossingsL
theorem cal_crossingsL {P : Program} {w : World} {K : PySem.W.Frag} {mg : Str → Option Value} {base : Heap} {f : Addr} {fd : FuncData} (C_betweenL : Cal P w K mg base 3 "_law_between" 3 sp_betweenL) (C_pair_waysL : Cal P w K mg base 4 "_law_pair_ways" 2 sp_pair_waysL) (C_roomL : Cal P w K mg base 2 "_law_room" 4 sp_roomL) (C_shareL : Cal P w K mg base 2 "_law_share" 2 sp_shareL) (F : FunD K "_law_crossings" "_law_crossings" (defArgs S_crossingsL) (defBody S_crossingsL) (defScope S_crossingsL) [] [] f fd) (hm : mg "_law_crossings" = some (.ref f)) : Cal P w K mg base 5 "_law_crossings" 2 sp_crossingsL :=
  cal_of (ps := P_crossingsL) (fn_crossingsL C_betweenL C_pair_waysL C_roomL C_shareL F) hm F.kp (F.bindsN fun _ _ _ _ _ _ us hl => match us, hl with | [_, _], _ => rfl)
theorem fn_gap {P : Program} {w : World} {K : PySem.W.Frag} {mg : Str → Option Value} {base : Heap} {f : Addr} {fd : FuncData} {dv0 : V} (C_along : Cal P w K mg base 3 "along" 2 sp_along) (C_minus : Cal P w K mg base 3 "minus" 2 sp_minus) (C_plus : Cal P w K mg base 3 "plus" 2 sp_plus) (C_rate : Cal P w K mg base 5 "rate" 3 sp_rate) (C_reach : Cal P w K mg base 1 "reach" 2 sp_reach) (C_spot_minus : Cal P w K mg base 4 "spot_minus" 2 sp_spot_minus) (C_times : Cal P w K mg base 3 "times" 2 sp_times) (C_turned_way : Cal P w K mg base 1 "turned_way" 1 sp_turned_way) (F : FunD K "gap" "gap" (defArgs S_gap) (defBody S_gap) (defScope S_gap) [dv0] [] f fd) : FnOk P w K mg base CX0 6 f fd P_gap (spD K 4 sp_gap) :=
  fn_D F sc_gap (fun cdv A outer s H E hr => walk_gap C_along C_minus C_plus C_rate C_reach C_spot_minus C_times C_turned_way cdv A outer s H E hr) rd_gap
theorem bind_gap4 {K : PySem.W.Frag} {f : Addr} {fd : FuncData} {dv0 : V} (F : FunD K "gap" "gap" (defArgs S_gap) (defBody S_gap) (defScope S_gap) [dv0] [] f fd) : Binds K fd P_gap [] := by
  obtain ⟨ds, v, b⟩ := F.binds1 (ps := P_gap) 4 1 (by simp) rfl fun T kV doc pm an cdv ct us its hu hi => match us, its, hu, hi with | [_, _, _, _], [_], _, _ => ⟨_, rfl, rfl⟩
  cases v
  exact b
theorem bind_gap3 {K : PySem.W.Frag} {f : Addr} {fd : FuncData} {dv0 : V} (F : FunD K "gap" "gap" (defArgs S_gap) (defBody S_gap) (defScope S_gap) [dv0] [] f fd) : ∃ ds, Vals [dv0] ds ∧ Binds K fd P_gap ds :=
  F.binds1 (ps := P_gap) 3 0 (by simp) rfl fun T kV doc pm an cdv ct us its hu hi => match us, its, hu, hi with | [_, _, _], [_], _, _ => ⟨_, rfl, rfl⟩
theorem cal_gap {P : Program} {w : World} {K : PySem.W.Frag} {mg : Str → Option Value} {base : Heap} {f : Addr} {fd : FuncData} {dv0 : V} (C_along : Cal P w K mg base 3 "along" 2 sp_along) (C_minus : Cal P w K mg base 3 "minus" 2 sp_minus) (C_plus : Cal P w K mg base 3 "plus" 2 sp_plus) (C_rate : Cal P w K mg base 5 "rate" 3 sp_rate) (C_reach : Cal P w K mg base 1 "reach" 2 sp_reach) (C_spot_minus : Cal P w K mg base 4 "spot_minus" 2 sp_spot_minus) (C_times : Cal P w K mg base 3 "times" 2 sp_times) (C_turned_way : Cal P w K mg base 1 "turned_way" 1 sp_turned_way) (F : FunD K "gap" "gap" (defArgs S_gap) (defBody S_gap) (defScope S_gap) [dv0] [] f fd) (hm : mg "gap" = some (.ref f)) : Cal P w K mg base 6 "gap" 4 sp_gap :=
  cal_of (ps := P_gap) (fn_gap C_along C_minus C_plus C_rate C_reach C_spot_minus C_times C_turned_way F) hm F.kp (bind_gap4 F)
theorem cal_gap3 {P : Program} {w : World} {K : PySem.W.Frag} {mg : Str → Option Value} {base : Heap} {f : Addr} {fd : FuncData} {dv0 : V} {a0 : Addr} (C_along : Cal P w K mg base 3 "along" 2 sp_along) (C_minus : Cal P w K mg base 3 "minus" 2 sp_minus) (C_plus : Cal P w K mg base 3 "plus" 2 sp_plus) (C_rate : Cal P w K mg base 5 "rate" 3 sp_rate) (C_reach : Cal P w K mg base 1 "reach" 2 sp_reach) (C_spot_minus : Cal P w K mg base 4 "spot_minus" 2 sp_spot_minus) (C_times : Cal P w K mg base 3 "times" 2 sp_times) (C_turned_way : Cal P w K mg base 1 "turned_way" 1 sp_turned_way) (F : FunD K "gap" "gap" (defArgs S_gap) (defBody S_gap) (defScope S_gap) [dv0] [] f fd) (h0 : SqT K (fun _ => none) a0 [V.int 0, V.int 1]) (e0 : dv0 = .ref a0) (hm : mg "gap" = some (.ref f)) : Cal P w K mg base 6 "gap" 3 sp_gap3 := by
  obtain ⟨ds, v, b⟩ := bind_gap3 F
  refine ⟨f, fd, P_gap, 4, [.ktup [.int 0, .int 1]], [dv0], ds, sp_gap, fn_gap C_along C_minus C_plus C_rate C_reach C_spot_minus C_times C_turned_way F, hm, F.kp, b, v, fun F1 => ?_, rfl, fun xs m R _ q => ?_⟩
  · rw [e0]
    exact .cons (.ktup h0 (.cons (.int 0) (.cons (.int 1) .nil))) .nil
  · obtain ⟨x, y, w1, k1, rfl, q1, q2, q3, q4⟩ := q
    exact ⟨x, y, w1, 0, k1, 1, _, rfl, .inr ⟨rfl, rfl⟩, q1, q2, (by unfold Bq B; decide), by omega, q4⟩
theorem fn_shapeL {P : Program} {w : World} {K : PySem.W.Frag} {mg : Str → Option Value} {base : Heap} {f : Addr} {fd : FuncData} (C_eightL : Cal P w K mg base 5 "_law_eight" 2 sp_eightL) (C_halfL : Cal P w K mg base 2 "_law_half" 1 sp_halfL) (C_numberL : Cal P w K mg base 4 "_law_number" 2 sp_numberL) (C_takeL : Cal P w K mg base 2 "_law_take" 2 sp_takeL) (m_abs : mg "abs" = none) (m_len : mg "len" = none) (m_range : mg "range" = none) (m_sorted : mg "sorted" = none) (m_tuple : mg "tuple" = none) (F : FunD K "_law_shape" "_law_shape" (defArgs S_shapeL) (defBody S_shapeL) (defScope S_shapeL) [] [] f fd) : FnOk P w K mg base CX0 6 f fd P_shapeL (spD K 2 sp_shapeL) :=
  fn_D F sc_shapeL (fun cdv A outer s H E hr => walk_shapeL C_eightL C_halfL C_numberL C_takeL m_abs m_len m_range m_sorted m_tuple cdv A outer s H E hr) rd_shapeL
theorem cal_shapeL {P : Program} {w : World} {K : PySem.W.Frag} {mg : Str → Option Value} {base : Heap} {f : Addr} {fd : FuncData} (C_eightL : Cal P w K mg base 5 "_law_eight" 2 sp_eightL) (C_halfL : Cal P w K mg base 2 "_law_half" 1 sp_halfL) (C_numberL : Cal P w K mg base 4 "_law_number" 2 sp_numberL) (C_takeL : Cal P w K mg base 2 "_law_take" 2 sp_takeL) (m_abs : mg "abs" = none) (m_len : mg "len" = none) (m_range : mg "range" = none) (m_sorted : mg "sorted" = none) (m_tuple : mg "tuple" = none) (F : FunD K "_law_shape" "_law_shape" (defArgs S_shapeL) (defBody S_shapeL) (defScope S_shapeL) [] [] f fd) (hm : mg "_law_shape" = some (.ref f)) : Cal P w K mg base 6 "_law_shape" 2 sp_shapeL :=
  cal_of (ps := P_shapeL) (fn_shapeL C_eightL C_halfL C_numberL C_takeL m_abs m_len m_range m_sorted m_tuple F) hm F.kp (F.bindsN fun _ _ _ _ _ _ us hl => match us, hl with | [_, _], _ => rfl)
theorem fn_overL {P : Program} {w : World} {K : PySem.W.Frag} {mg : Str → Option Value} {base : Heap} {f : Addr} {fd : FuncData} (C_roomsL : Cal P w K mg base 5 "_law_rooms" 3 sp_roomsL) (m_max : mg "max" = none) (F : FunD K "_law_over" "_law_over" (defArgs S_overL) (defBody S_overL) (defScope S_overL) [] [] f fd) : FnOk P w K mg base CX0 6 f fd P_overL (spD K 3 sp_overL) :=
  fn_D F sc_overL (fun cdv A outer s H E hr => walk_overL C_roomsL m_max cdv A outer s H E hr) rd_overL
theorem cal_overL {P : Program} {w : World} {K : PySem.W.Frag} {mg : Str → Option Value} {base : Heap} {f : Addr} {fd : FuncData} (C_roomsL : Cal P w K mg base 5 "_law_rooms" 3 sp_roomsL) (m_max : mg "max" = none) (F : FunD K "_law_over" "_law_over" (defArgs S_overL) (defBody S_overL) (defScope S_overL) [] [] f fd) (hm : mg "_law_over" = some (.ref f)) : Cal P w K mg base 6 "_law_over" 3 sp_overL :=
  cal_of (ps := P_overL) (fn_overL C_roomsL m_max F) hm F.kp (F.bindsN fun _ _ _ _ _ _ us hl => match us, hl with | [_, _, _], _ => rfl)
theorem fn_papersL {P : Program} {w : World} {K : PySem.W.Frag} {mg : Str → Option Value} {base : Heap} {f : Addr} {fd : FuncData} (C_crossingsL : Cal P w K mg base 5 "_law_crossings" 2 sp_crossingsL) (C_pair_waysL : Cal P w K mg base 4 "_law_pair_ways" 2 sp_pair_waysL) (C_plusL : Cal P w K mg base 1 "_law_plus" 2 sp_plusL) (C_shareL : Cal P w K mg base 2 "_law_share" 2 sp_shareL) (C_takeL : Cal P w K mg base 2 "_law_take" 2 sp_takeL) (C_uprightL : Cal P w K mg base 3 "_law_upright" 2 sp_uprightL) (C_wayL : Cal P w K mg base 2 "_law_way" 2 sp_wayL) (m_len : mg "len" = none) (m_range : mg "range" = none) (F : FunD K "_law_papers" "_law_papers" (defArgs S_papersL) (defBody S_papersL) (defScope S_papersL) [] [] f fd) : FnOk P w K mg base CX0 6 f fd P_papersL (spD K 3 sp_papersL) :=
  fn_D F sc_papersL (fun cdv A outer s H E hr => walk_papersL C_crossingsL C_pair_waysL C_plusL C_shareL C_takeL C_uprightL C_wayL m_len m_range cdv A outer s H E hr) rd_papersL
theorem cal_papersL {P : Program} {w : World} {K : PySem.W.Frag} {mg : Str → Option Value} {base : Heap} {f : Addr} {fd : FuncData} (C_crossingsL : Cal P w K mg base 5 "_law_crossings" 2 sp_crossingsL) (C_pair_waysL : Cal P w K mg base 4 "_law_pair_ways" 2 sp_pair_waysL) (C_plusL : Cal P w K mg base 1 "_law_plus" 2 sp_plusL) (C_shareL : Cal P w K mg base 2 "_law_share" 2 sp_shareL) (C_takeL : Cal P w K mg base 2 "_law_take" 2 sp_takeL) (C_uprightL : Cal P w K mg base 3 "_law_upright" 2 sp_uprightL) (C_wayL : Cal P w K mg base 2 "_law_way" 2 sp_wayL) (m_len : mg "len" = none) (m_range : mg "range" = none) (F : FunD K "_law_papers" "_law_papers" (defArgs S_papersL) (defBody S_papersL) (defScope S_papersL) [] [] f fd) (hm : mg "_law_papers" = some (.ref f)) : Cal P w K mg base 6 "_law_papers" 3 sp_papersL :=
  cal_of (ps := P_papersL) (fn_papersL C_crossingsL C_pair_waysL C_plusL C_shareL C_takeL C_uprightL C_wayL m_len m_range F) hm F.kp (F.bindsN fun _ _ _ _ _ _ us hl => match us, hl with | [_, _, _], _ => rfl)
theorem fn_first {P : Program} {w : World} {K : PySem.W.Frag} {mg : Str → Option Value} {base : Heap} {f : Addr} {fd : FuncData} (C_entered : Cal P w K mg base 4 "entered" 1 sp_entered) (C_gap3 : Cal P w K mg base 6 "gap" 3 sp_gap3) (C_names_of : Cal P w K mg base 1 "names_of" 2 sp_names_of) (C_order : Cal P w K mg base 1 "order" 2 sp_order) (C_pair_ways : Cal P w K mg base 4 "pair_ways" 2 sp_pair_ways) (C_plus : Cal P w K mg base 3 "plus" 2 sp_plus) (C_rate : Cal P w K mg base 5 "rate" 3 sp_rate) (C_times : Cal P w K mg base 3 "times" 2 sp_times) (C_upright_ways : Cal P w K mg base 5 "upright_ways" 2 sp_upright_ways) (m_max : mg "max" = none) (F : FunD K "first" "first" (defArgs S_first) (defBody S_first) (defScope S_first) [] [] f fd) : FnOk P w K mg base CX0 7 f fd P_first (spD K 3 sp_first) :=
  fn_D F sc_first (fun cdv A outer s H E hr => walk_first C_entered C_gap3 C_names_of C_order C_pair_ways C_plus C_rate C_times C_upright_ways m_max cdv A outer s H E hr) rd_first
theorem cal_first {P : Program} {w : World} {K : PySem.W.Frag} {mg : Str → Option Value} {base : Heap} {f : Addr} {fd : FuncData} (C_entered : Cal P w K mg base 4 "entered" 1 sp_entered) (C_gap3 : Cal P w K mg base 6 "gap" 3 sp_gap3) (C_names_of : Cal P w K mg base 1 "names_of" 2 sp_names_of) (C_order : Cal P w K mg base 1 "order" 2 sp_order) (C_pair_ways : Cal P w K mg base 4 "pair_ways" 2 sp_pair_ways) (C_plus : Cal P w K mg base 3 "plus" 2 sp_plus) (C_rate : Cal P w K mg base 5 "rate" 3 sp_rate) (C_times : Cal P w K mg base 3 "times" 2 sp_times) (C_upright_ways : Cal P w K mg base 5 "upright_ways" 2 sp_upright_ways) (m_max : mg "max" = none) (F : FunD K "first" "first" (defArgs S_first) (defBody S_first) (defScope S_first) [] [] f fd) (hm : mg "first" = some (.ref f)) : Cal P w K mg base 7 "first" 3 sp_first :=
  cal_of (ps := P_first) (fn_first C_entered C_gap3 C_names_of C_order C_pair_ways C_plus C_rate C_times C_upright_ways m_max F) hm F.kp (F.bindsN fun _ _ _ _ _ _ us hl => match us, hl with | [_, _, _], _ => rfl)
theorem fn_meets_now {P : Program} {w : World} {K : PySem.W.Frag} {mg : Str → Option Value} {base : Heap} {f : Addr} {fd : FuncData} (C_gap : Cal P w K mg base 6 "gap" 4 sp_gap) (C_pair_ways : Cal P w K mg base 4 "pair_ways" 2 sp_pair_ways) (C_rate : Cal P w K mg base 5 "rate" 3 sp_rate) (F : FunD K "meets_now" "meets_now" (defArgs S_meets_now) (defBody S_meets_now) (defScope S_meets_now) [] [] f fd) : FnOk P w K mg base CX0 7 f fd P_meets_now (spD K 3 sp_meets_now) :=
  fn_D F sc_meets_now (fun cdv A outer s H E hr => walk_meets_now C_gap C_pair_ways C_rate cdv A outer s H E hr) rd_meets_now
theorem cal_meets_now {P : Program} {w : World} {K : PySem.W.Frag} {mg : Str → Option Value} {base : Heap} {f : Addr} {fd : FuncData} (C_gap : Cal P w K mg base 6 "gap" 4 sp_gap) (C_pair_ways : Cal P w K mg base 4 "pair_ways" 2 sp_pair_ways) (C_rate : Cal P w K mg base 5 "rate" 3 sp_rate) (F : FunD K "meets_now" "meets_now" (defArgs S_meets_now) (defBody S_meets_now) (defScope S_meets_now) [] [] f fd) (hm : mg "meets_now" = some (.ref f)) : Cal P w K mg base 7 "meets_now" 3 sp_meets_now :=
  cal_of (ps := P_meets_now) (fn_meets_now C_gap C_pair_ways C_rate F) hm F.kp (F.bindsN fun _ _ _ _ _ _ us hl => match us, hl with | [_, _, _], _ => rfl)
theorem fn_rowL {P : Program} {w : World} {K : PySem.W.Frag} {mg : Str → Option Value} {base : Heap} {f : Addr} {fd : FuncData} (C_drawnL : Cal P w K mg base 4 "_law_drawn" 2 sp_drawnL) (C_shapeL : Cal P w K mg base 6 "_law_shape" 2 sp_shapeL) (C_spotL : Cal P w K mg base 3 "_law_spot" 1 sp_spotL) (C_spot_timesL : Cal P w K mg base 2 "_law_spot_times" 2 sp_spot_timesL) (C_takeL : Cal P w K mg base 2 "_law_take" 2 sp_takeL) (C_wayL : Cal P w K mg base 2 "_law_way" 2 sp_wayL) (F : FunD K "_law_row" "_law_row" (defArgs S_rowL) (defBody S_rowL) (defScope S_rowL) [] [] f fd) : FnOk P w K mg base CX0 7 f fd P_rowL (spD K 5 sp_rowL) :=
  fn_D F sc_rowL (fun cdv A outer s H E hr => walk_rowL C_drawnL C_shapeL C_spotL C_spot_timesL C_takeL C_wayL cdv A outer s H E hr) rd_rowL
theorem cal_rowL {P : Program} {w : World} {K : PySem.W.Frag} {mg : Str → Option Value} {base : Heap} {f : Addr} {fd : FuncData} (C_drawnL : Cal P w K mg base 4 "_law_drawn" 2 sp_drawnL) (C_shapeL : Cal P w K mg base 6 "_law_shape" 2 sp_shapeL) (C_spotL : Cal P w K mg base 3 "_law_spot" 1 sp_spotL) (C_spot_timesL : Cal P w K mg base 2 "_law_spot_times" 2 sp_spot_timesL) (C_takeL : Cal P w K mg base 2 "_law_take" 2 sp_takeL) (C_wayL : Cal P w K mg base 2 "_law_way" 2 sp_wayL) (F : FunD K "_law_row" "_law_row" (defArgs S_rowL) (defBody S_rowL) (defScope S_rowL) [] [] f fd) (hm : mg "_law_row" = some (.ref f)) : Cal P w K mg base 7 "_law_row" 5 sp_rowL :=
  cal_of (ps := P_rowL) (fn_rowL C_drawnL C_shapeL C_spotL C_spot_timesL C_takeL C_wayL F) hm F.kp (F.bindsN fun _ _ _ _ _ _ us hl => match us, hl with | [_, _, _, _, _], _ => rfl)
theorem fn_first_held {P : Program} {w : World} {K : PySem.W.Frag} {mg : Str → Option Value} {base : Heap} {f : Addr} {fd : FuncData} (C_gap : Cal P w K mg base 6 "gap" 4 sp_gap) (C_gap3 : Cal P w K mg base 6 "gap" 3 sp_gap3) (C_is_share : Cal P w K mg base 2 "is_share" 1 sp_is_share) (C_is_way : Cal P w K mg base 2 "is_way" 1 sp_is_way) (C_meets_now : Cal P w K mg base 7 "meets_now" 3 sp_meets_now) (C_order : Cal P w K mg base 1 "order" 2 sp_order) (C_pair_ways : Cal P w K mg base 4 "pair_ways" 2 sp_pair_ways) (C_rate : Cal P w K mg base 5 "rate" 3 sp_rate) (m_isinstance : mg "isinstance" = none) (m_len : mg "len" = none) (m_tuple : mg "tuple" = none) (F : FunD K "first_held" "first_held" (defArgs S_first_held) (defBody S_first_held) (defScope S_first_held) [] [] f fd) : FnOk P w K mg base CX0 8 f fd P_first_held (spD K 4 sp_first_held) :=
  fn_D F sc_first_held (fun cdv A outer s H E hr => walk_first_held C_gap C_gap3 C_is_share C_is_way C_meets_now C_order C_pair_ways C_rate m_isinstance m_len m_tuple cdv A outer s H E hr) rd_first_held
theorem cal_first_held {P : Program} {w : World} {K : PySem.W.Frag} {mg : Str → Option Value} {base : Heap} {f : Addr} {fd : FuncData} (C_gap : Cal P w K mg base 6 "gap" 4 sp_gap) (C_gap3 : Cal P w K mg base 6 "gap" 3 sp_gap3) (C_is_share : Cal P w K mg base 2 "is_share" 1 sp_is_share) (C_is_way : Cal P w K mg base 2 "is_way" 1 sp_is_way) (C_meets_now : Cal P w K mg base 7 "meets_now" 3 sp_meets_now) (C_order : Cal P w K mg base 1 "order" 2 sp_order) (C_pair_ways : Cal P w K mg base 4 "pair_ways" 2 sp_pair_ways) (C_rate : Cal P w K mg base 5 "rate" 3 sp_rate) (m_isinstance : mg "isinstance" = none) (m_len : mg "len" = none) (m_tuple : mg "tuple" = none) (F : FunD K "first_held" "first_held" (defArgs S_first_held) (defBody S_first_held) (defScope S_first_held) [] [] f fd) (hm : mg "first_held" = some (.ref f)) : Cal P w K mg base 8 "first_held" 4 sp_first_held :=
  cal_of (ps := P_first_held) (fn_first_held C_gap C_gap3 C_is_share C_is_way C_meets_now C_order C_pair_ways C_rate m_isinstance m_len m_tuple F) hm F.kp (F.bindsN fun _ _ _ _ _ _ us hl => match us, hl with | [_, _, _, _], _ => rfl)
theorem fn_pairL {P : Program} {w : World} {K : PySem.W.Frag} {mg : Str → Option Value} {base : Heap} {f : Addr} {fd : FuncData} (C_namesL : Cal P w K mg base 3 "_law_names" 1 sp_namesL) (C_rowL : Cal P w K mg base 7 "_law_row" 5 sp_rowL) (C_shareL : Cal P w K mg base 2 "_law_share" 2 sp_shareL) (C_spotL : Cal P w K mg base 3 "_law_spot" 1 sp_spotL) (C_spot_plusL : Cal P w K mg base 2 "_law_spot_plus" 2 sp_spot_plusL) (C_spot_timesL : Cal P w K mg base 2 "_law_spot_times" 2 sp_spot_timesL) (C_takeL : Cal P w K mg base 2 "_law_take" 2 sp_takeL) (m_len : mg "len" = none) (F : FunD K "_law_pair" "_law_pair" (defArgs S_pairL) (defBody S_pairL) (defScope S_pairL) [] [] f fd) : FnOk P w K mg base CX0 8 f fd P_pairL (spD K 1 sp_pairL) :=
  fn_D F sc_pairL (fun cdv A outer s H E hr => walk_pairL C_namesL C_rowL C_shareL C_spotL C_spot_plusL C_spot_timesL C_takeL m_len cdv A outer s H E hr) rd_pairL
theorem cal_pairL {P : Program} {w : World} {K : PySem.W.Frag} {mg : Str → Option Value} {base : Heap} {f : Addr} {fd : FuncData} (C_namesL : Cal P w K mg base 3 "_law_names" 1 sp_namesL) (C_rowL : Cal P w K mg base 7 "_law_row" 5 sp_rowL) (C_shareL : Cal P w K mg base 2 "_law_share" 2 sp_shareL) (C_spotL : Cal P w K mg base 3 "_law_spot" 1 sp_spotL) (C_spot_plusL : Cal P w K mg base 2 "_law_spot_plus" 2 sp_spot_plusL) (C_spot_timesL : Cal P w K mg base 2 "_law_spot_times" 2 sp_spot_timesL) (C_takeL : Cal P w K mg base 2 "_law_take" 2 sp_takeL) (m_len : mg "len" = none) (F : FunD K "_law_pair" "_law_pair" (defArgs S_pairL) (defBody S_pairL) (defScope S_pairL) [] [] f fd) (hm : mg "_law_pair" = some (.ref f)) : Cal P w K mg base 8 "_law_pair" 1 sp_pairL :=
  cal_of (ps := P_pairL) (fn_pairL C_namesL C_rowL C_shareL C_spotL C_spot_plusL C_spot_timesL C_takeL m_len F) hm F.kp (F.bindsN fun _ _ _ _ _ _ us hl => match us, hl with | [_], _ => rfl)
theorem fn_told_is_rightL {P : Program} {w : World} {K : PySem.W.Frag} {mg : Str → Option Value} {base : Heap} {f : Addr} {fd : FuncData} (C_first : Cal P w K mg base 7 "first" 3 sp_first) (C_first_held : Cal P w K mg base 8 "first_held" 4 sp_first_held) (C_turnedL : Cal P w K mg base 1 "_law_turned" 1 sp_turnedL) (F : FunD K "_law_told_is_right" "_law_told_is_right" (defArgs S_told_is_rightL) (defBody S_told_is_rightL) (defScope S_told_is_rightL) [] [] f fd) : FnOk P w K mg base CX0 9 f fd P_told_is_rightL (spD K 4 sp_told_is_rightL) :=
  fn_D F sc_told_is_rightL (fun cdv A outer s H E hr => walk_told_is_rightL C_first C_first_held C_turnedL cdv A outer s H E hr) rd_told_is_rightL
theorem cal_told_is_rightL {P : Program} {w : World} {K : PySem.W.Frag} {mg : Str → Option Value} {base : Heap} {f : Addr} {fd : FuncData} (C_first : Cal P w K mg base 7 "first" 3 sp_first) (C_first_held : Cal P w K mg base 8 "first_held" 4 sp_first_held) (C_turnedL : Cal P w K mg base 1 "_law_turned" 1 sp_turnedL) (F : FunD K "_law_told_is_right" "_law_told_is_right" (defArgs S_told_is_rightL) (defBody S_told_is_rightL) (defScope S_told_is_rightL) [] [] f fd) (hm : mg "_law_told_is_right" = some (.ref f)) : Cal P w K mg base 9 "_law_told_is_right" 4 sp_told_is_rightL :=
  cal_of (ps := P_told_is_rightL) (fn_told_is_rightL C_first C_first_held C_turnedL F) hm F.kp (F.bindsN fun _ _ _ _ _ _ us hl => match us, hl with | [_, _, _, _], _ => rfl)
theorem fn_law {P : Program} {w : World} {K : PySem.W.Frag} {mg : Str → Option Value} {base : Heap} {f : Addr} {fd : FuncData} (C_deckL : Cal P w K mg base 1 "_law_deck" 1 sp_deckL) (C_first : Cal P w K mg base 7 "first" 3 sp_first) (C_first_held : Cal P w K mg base 8 "first_held" 4 sp_first_held) (C_overL : Cal P w K mg base 6 "_law_over" 3 sp_overL) (C_pairL : Cal P w K mg base 8 "_law_pair" 1 sp_pairL) (C_papersL : Cal P w K mg base 6 "_law_papers" 3 sp_papersL) (C_plusL : Cal P w K mg base 1 "_law_plus" 2 sp_plusL) (C_shareL : Cal P w K mg base 2 "_law_share" 2 sp_shareL) (C_takeL : Cal P w K mg base 2 "_law_take" 2 sp_takeL) (C_told_is_rightL : Cal P w K mg base 9 "_law_told_is_right" 4 sp_told_is_rightL) (C_untilL : Cal P w K mg base 3 "_law_until" 2 sp_untilL) (F : FunD K "law" "law" (defArgs S_law) (defBody S_law) (defScope S_law) [] [] f fd) : FnOk P w K mg base CX0 10 f fd P_law (spD K 1 sp_law) :=
  fn_D F sc_law (fun cdv A outer s H E hr => walk_law C_deckL C_first C_first_held C_overL C_pairL C_papersL C_plusL C_shareL C_takeL C_told_is_rightL C_untilL cdv A outer s H E hr) rd_law
theorem facts {P : Program} {w : World} {K : PySem.W.Frag} {h : Heap} {mg : Str → Option Value} {f : Addr} (X : K.In h) (G : h.Ns mainGlobals mg) (hfa : mg "law" = some (.ref f)) (c : He.SaysX fa fn [] [] exN w h K) :
    ∃ fd : FuncData, (∀ (s : Shared) (v : Value), BindsTo s fd ⟨[v], []⟩ [("_law_script", v)]) ∧ ∀ base : Heap, K.In base → base.Ns mainGlobals mg → FnOk P w K mg base CX0 10 f fd ["_law_script"] (spD K 1 sp_law) := by
  have cd := c.t.d
  have m_abs : mg "abs" = none := He.free_ok X G (cd.fact 61 (f := .free "abs") rfl)
  have m_len : mg "len" = none := He.free_ok X G (cd.fact 62 (f := .free "len") rfl)
  have m_isinstance : mg "isinstance" = none := He.free_ok X G (cd.fact 63 (f := .free "isinstance") rfl)
  have m_tuple : mg "tuple" = none := He.free_ok X G (cd.fact 64 (f := .free "tuple") rfl)
  have m_int : mg "int" = none := He.free_ok X G (cd.fact 65 (f := .free "int") rfl)
  have m_bool : mg "bool" = none := He.free_ok X G (cd.fact 66 (f := .free "bool") rfl)
  have m_list : mg "list" = none := He.free_ok X G (cd.fact 67 (f := .free "list") rfl)
  have m_sorted : mg "sorted" = none := He.free_ok X G (cd.fact 68 (f := .free "sorted") rfl)
  have m_max : mg "max" = none := He.free_ok X G (cd.fact 69 (f := .free "max") rfl)
  have m_min : mg "min" = none := He.free_ok X G (cd.fact 70 (f := .free "min") rfl)
  have m_all : mg "all" = none := He.free_ok X G (cd.fact 71 (f := .free "all") rfl)
  have m_zip : mg "zip" = none := He.free_ok X G (cd.fact 72 (f := .free "zip") rfl)
  have m_range : mg "range" = none := He.free_ok X G (cd.fact 73 (f := .free "range") rfl)
  have m_enumerate : mg "enumerate" = none := He.free_ok X G (cd.fact 74 (f := .free "enumerate") rfl)
  obtain ⟨fd_is_whole, F_is_whole⟩ := cd.def_ 0 (d := d_is_whole) rfl
  obtain ⟨fd_divisor, F_divisor⟩ := cd.def_ 1 (d := d_divisor) rfl
  obtain ⟨fd_order, F_order⟩ := cd.def_ 8 (d := d_order) rfl
  obtain ⟨fd_reach, F_reach⟩ := cd.def_ 14 (d := d_reach) rfl
  obtain ⟨fd_turned_way, F_turned_way⟩ := cd.def_ 15 (d := d_turned_way) rfl
  obtain ⟨fd_names_of, F_names_of⟩ := cd.def_ 19 (d := d_names_of) rfl
  obtain ⟨fd_cellL, F_cellL⟩ := cd.def_ 25 (d := d_cellL) rfl
  obtain ⟨fd_deckL, F_deckL⟩ := cd.def_ 26 (d := d_deckL) rfl
  obtain ⟨fd_gcdL, F_gcdL⟩ := cd.def_ 29 (d := d_gcdL) rfl
  obtain ⟨fd_plusL, F_plusL⟩ := cd.def_ 31 (d := d_plusL) rfl
  obtain ⟨fd_timesL, F_timesL⟩ := cd.def_ 32 (d := d_timesL) rfl
  obtain ⟨fd_leftL, F_leftL⟩ := cd.def_ 36 (d := d_leftL) rfl
  obtain ⟨fd_reachL, F_reachL⟩ := cd.def_ 44 (d := d_reachL) rfl
  obtain ⟨fd_turnedL, F_turnedL⟩ := cd.def_ 56 (d := d_turnedL) rfl
  obtain ⟨fd_is_share, F_is_share⟩ := cd.def_ 2 (d := d_is_share) rfl
  obtain ⟨fd_share, F_share⟩ := cd.def_ 3 (d := d_share) rfl
  obtain ⟨fd_is_way, F_is_way⟩ := cd.def_ 9 (d := d_is_way) rfl
  obtain ⟨fd_way_of, F_way_of⟩ := cd.def_ 10 (d := d_way_of) rfl
  obtain ⟨fd_takeL, F_takeL⟩ := cd.def_ 27 (d := d_takeL) rfl
  obtain ⟨fd_shareL, F_shareL⟩ := cd.def_ 30 (d := d_shareL) rfl
  obtain ⟨fd_spot_plusL, F_spot_plusL⟩ := cd.def_ 34 (d := d_spot_plusL) rfl
  obtain ⟨fd_spot_timesL, F_spot_timesL⟩ := cd.def_ 35 (d := d_spot_timesL) rfl
  obtain ⟨fd_halfL, F_halfL⟩ := cd.def_ 37 (d := d_halfL) rfl
  obtain ⟨fd_wayL, F_wayL⟩ := cd.def_ 42 (d := d_wayL) rfl
  obtain ⟨fd_roomL, F_roomL⟩ := cd.def_ 46 (d := d_roomL) rfl
  obtain ⟨fd_plus, F_plus⟩ := cd.def_ 4 (d := d_plus) rfl
  obtain ⟨fd_minus, F_minus⟩ := cd.def_ 5 (d := d_minus) rfl
  obtain ⟨fd_times, F_times⟩ := cd.def_ 6 (d := d_times) rfl
  obtain ⟨fd_over, F_over⟩ := cd.def_ 7 (d := d_over) rfl
  obtain ⟨fd_along, F_along⟩ := cd.def_ 11 (d := d_along) rfl
  obtain ⟨fd_sides, F_sides⟩ := cd.def_ 13 (d := d_sides) rfl
  obtain ⟨fd_longL, F_longL⟩ := cd.def_ 28 (d := d_longL) rfl
  obtain ⟨fd_spotL, F_spotL⟩ := cd.def_ 33 (d := d_spotL) rfl
  obtain ⟨fd_waysL, F_waysL⟩ := cd.def_ 41 (d := d_waysL) rfl
  obtain ⟨fd_betweenL, F_betweenL⟩ := cd.def_ 45 (d := d_betweenL) rfl
  obtain ⟨fd_namesL, F_namesL⟩ := cd.def_ 49 (d := d_namesL) rfl
  obtain ⟨fd_untilL, F_untilL⟩ := cd.def_ 53 (d := d_untilL) rfl
  obtain ⟨fd_uprightL, F_uprightL⟩ := cd.def_ 55 (d := d_uprightL) rfl
  obtain ⟨fd_spot_minus, F_spot_minus⟩ := cd.def_ 12 (d := d_spot_minus) rfl
  obtain ⟨fd_pair_ways, F_pair_ways⟩ := cd.def_ 16 (d := d_pair_ways) rfl
  obtain ⟨fd_entered, F_entered⟩ := cd.def_ 21 (d := d_entered) rfl
  obtain ⟨fd_numberL, F_numberL⟩ := cd.def_ 38 (d := d_numberL) rfl
  obtain ⟨fd_pair_waysL, F_pair_waysL⟩ := cd.def_ 43 (d := d_pair_waysL) rfl
  obtain ⟨fd_drawnL, F_drawnL⟩ := cd.def_ 50 (d := d_drawnL) rfl
  obtain ⟨fd_rate, F_rate⟩ := cd.def_ 17 (d := d_rate) rfl
  obtain ⟨fd_upright_ways, F_upright_ways⟩ := cd.def_ 20 (d := d_upright_ways) rfl
  obtain ⟨fd_eightL, F_eightL⟩ := cd.def_ 39 (d := d_eightL) rfl
  obtain ⟨fd_roomsL, F_roomsL⟩ := cd.def_ 47 (d := d_roomsL) rfl
  obtain ⟨fd_crossingsL, F_crossingsL⟩ := cd.def_ 54 (d := d_crossingsL) rfl
  obtain ⟨fd_gap, F_gap⟩ := cd.def_ 18 (d := d_gap) rfl
  obtain ⟨fd_shapeL, F_shapeL⟩ := cd.def_ 40 (d := d_shapeL) rfl
  obtain ⟨fd_overL, F_overL⟩ := cd.def_ 48 (d := d_overL) rfl
  obtain ⟨fd_papersL, F_papersL⟩ := cd.def_ 57 (d := d_papersL) rfl
  obtain ⟨fd_first, F_first⟩ := cd.def_ 22 (d := d_first) rfl
  obtain ⟨fd_meets_now, F_meets_now⟩ := cd.def_ 23 (d := d_meets_now) rfl
  obtain ⟨fd_rowL, F_rowL⟩ := cd.def_ 51 (d := d_rowL) rfl
  obtain ⟨fd_first_held, F_first_held⟩ := cd.def_ 24 (d := d_first_held) rfl
  obtain ⟨fd_pairL, F_pairL⟩ := cd.def_ 52 (d := d_pairL) rfl
  obtain ⟨fd_told_is_rightL, F_told_is_rightL⟩ := cd.def_ 58 (d := d_told_is_rightL) rfl
  obtain ⟨fd_law, F_law⟩ := cd.def_ 59 (d := d_law) rfl
  have e := hfa.symm.trans (He.glo_ok X G (cd.fact 59 (f := .glo "law") rfl))
  cases e
  have bl := FunD.bindsA (ps := ["_law_script"]) F_law fun _ _ _ _ _ _ us hl => match us, hl with | [_], _ => rfl
  have h0 : SqT K (fun _ => none) (He.ga K "NOUGHT") [V.int 0, V.int 1] := He.tupB_ok c.more _
  refine ⟨fd_law, fun s v => bl s [v] rfl, fun base _ _ => ?_⟩
  have C_is_whole : Cal P w K mg base 1 "is_whole" 1 sp_is_whole := cal_is_whole m_bool m_int m_isinstance F_is_whole (He.glo_ok X G (cd.fact 0 (f := .glo "is_whole") rfl))
  have C_divisor : Cal P w K mg base 1 "divisor" 2 sp_divisor := cal_divisor m_abs F_divisor (He.glo_ok X G (cd.fact 1 (f := .glo "divisor") rfl))
  have C_order : Cal P w K mg base 1 "order" 2 sp_order := cal_order  F_order (He.glo_ok X G (cd.fact 8 (f := .glo "order") rfl))
  have C_reach : Cal P w K mg base 1 "reach" 2 sp_reach := cal_reach m_max F_reach (He.glo_ok X G (cd.fact 14 (f := .glo "reach") rfl))
  have C_turned_way : Cal P w K mg base 1 "turned_way" 1 sp_turned_way := cal_turned_way  F_turned_way (He.glo_ok X G (cd.fact 15 (f := .glo "turned_way") rfl))
  have C_names_of : Cal P w K mg base 1 "names_of" 2 sp_names_of := cal_names_of  F_names_of (He.glo_ok X G (cd.fact 19 (f := .glo "names_of") rfl))
  have C_cellL : Cal P w K mg base 1 "_law_cell" 2 sp_cellL := cal_cellL m_abs m_len F_cellL (He.glo_ok X G (cd.fact 25 (f := .glo "_law_cell") rfl))
  have C_deckL : Cal P w K mg base 1 "_law_deck" 1 sp_deckL := cal_deckL m_abs m_list F_deckL (He.glo_ok X G (cd.fact 26 (f := .glo "_law_deck") rfl))
  have C_gcdL : Cal P w K mg base 1 "_law_gcd" 2 sp_gcdL := cal_gcdL m_abs F_gcdL (He.glo_ok X G (cd.fact 29 (f := .glo "_law_gcd") rfl))
  have C_plusL : Cal P w K mg base 1 "_law_plus" 2 sp_plusL := cal_plusL  F_plusL (He.glo_ok X G (cd.fact 31 (f := .glo "_law_plus") rfl))
  have C_timesL : Cal P w K mg base 1 "_law_times" 2 sp_timesL := cal_timesL  F_timesL (He.glo_ok X G (cd.fact 32 (f := .glo "_law_times") rfl))
  have C_leftL : Cal P w K mg base 1 "_law_left" 3 sp_leftL := cal_leftL  F_leftL (He.glo_ok X G (cd.fact 36 (f := .glo "_law_left") rfl))
  have C_reachL : Cal P w K mg base 1 "_law_reach" 2 sp_reachL := cal_reachL m_max F_reachL (He.glo_ok X G (cd.fact 44 (f := .glo "_law_reach") rfl))
  have C_turnedL : Cal P w K mg base 1 "_law_turned" 1 sp_turnedL := cal_turnedL  F_turnedL (He.glo_ok X G (cd.fact 56 (f := .glo "_law_turned") rfl))
  have C_is_share : Cal P w K mg base 2 "is_share" 1 sp_is_share := cal_is_share C_divisor C_is_whole m_isinstance m_len m_tuple F_is_share (He.glo_ok X G (cd.fact 2 (f := .glo "is_share") rfl))
  have C_share : Cal P w K mg base 2 "share" 2 sp_share := cal_share C_divisor F_share (He.glo_ok X G (cd.fact 3 (f := .glo "share") rfl))
  have C_is_way : Cal P w K mg base 2 "is_way" 1 sp_is_way := cal_is_way C_divisor C_is_whole m_all m_isinstance m_len m_tuple F_is_way (He.glo_ok X G (cd.fact 9 (f := .glo "is_way") rfl))
  have C_way_of : Cal P w K mg base 2 "way_of" 2 sp_way_of := cal_way_of C_divisor F_way_of (He.glo_ok X G (cd.fact 10 (f := .glo "way_of") rfl))
  have C_takeL : Cal P w K mg base 2 "_law_take" 2 sp_takeL := cal_takeL C_cellL m_len F_takeL (He.glo_ok X G (cd.fact 27 (f := .glo "_law_take") rfl))
  have C_shareL : Cal P w K mg base 2 "_law_share" 2 sp_shareL := cal_shareL C_gcdL F_shareL (He.glo_ok X G (cd.fact 30 (f := .glo "_law_share") rfl))
  have C_spot_plusL : Cal P w K mg base 2 "_law_spot_plus" 2 sp_spot_plusL := cal_spot_plusL C_plusL F_spot_plusL (He.glo_ok X G (cd.fact 34 (f := .glo "_law_spot_plus") rfl))
  have C_spot_timesL : Cal P w K mg base 2 "_law_spot_times" 2 sp_spot_timesL := cal_spot_timesL C_timesL F_spot_timesL (He.glo_ok X G (cd.fact 35 (f := .glo "_law_spot_times") rfl))
  have C_halfL : Cal P w K mg base 2 "_law_half" 1 sp_halfL := cal_halfL C_leftL m_len F_halfL (He.glo_ok X G (cd.fact 37 (f := .glo "_law_half") rfl))
  have C_wayL : Cal P w K mg base 2 "_law_way" 2 sp_wayL := cal_wayL C_gcdL F_wayL (He.glo_ok X G (cd.fact 42 (f := .glo "_law_way") rfl))
  have C_roomL : Cal P w K mg base 2 "_law_room" 4 sp_roomL := cal_roomL C_reachL F_roomL (He.glo_ok X G (cd.fact 46 (f := .glo "_law_room") rfl))
  have C_plus : Cal P w K mg base 3 "plus" 2 sp_plus := cal_plus C_share F_plus (He.glo_ok X G (cd.fact 4 (f := .glo "plus") rfl))
  have C_minus : Cal P w K mg base 3 "minus" 2 sp_minus := cal_minus C_share F_minus (He.glo_ok X G (cd.fact 5 (f := .glo "minus") rfl))
  have C_times : Cal P w K mg base 3 "times" 2 sp_times := cal_times C_share F_times (He.glo_ok X G (cd.fact 6 (f := .glo "times") rfl))
  have C_over : Cal P w K mg base 3 "over" 2 sp_over := cal_over C_share F_over (He.glo_ok X G (cd.fact 7 (f := .glo "over") rfl))
  have C_along : Cal P w K mg base 3 "along" 2 sp_along := cal_along C_share F_along (He.glo_ok X G (cd.fact 11 (f := .glo "along") rfl))
  have C_sides : Cal P w K mg base 3 "sides" 1 sp_sides := cal_sides C_way_of m_tuple m_zip F_sides (He.glo_ok X G (cd.fact 13 (f := .glo "sides") rfl))
  have C_longL : Cal P w K mg base 3 "_law_long" 2 sp_longL := cal_longL C_takeL m_range F_longL (He.glo_ok X G (cd.fact 28 (f := .glo "_law_long") rfl))
  have C_spotL : Cal P w K mg base 3 "_law_spot" 1 sp_spotL := cal_spotL C_shareL F_spotL (He.glo_ok X G (cd.fact 33 (f := .glo "_law_spot") rfl))
  have C_waysL : Cal P w K mg base 3 "_law_ways" 1 sp_waysL := cal_waysL C_wayL m_enumerate m_len F_waysL (He.glo_ok X G (cd.fact 41 (f := .glo "_law_ways") rfl))
  have C_betweenL : Cal P w K mg base 3 "_law_between" 3 sp_betweenL := cal_betweenL C_spot_plusL C_spot_timesL F_betweenL (He.glo_ok X G (cd.fact 45 (f := .glo "_law_between") rfl))
  have C_namesL : Cal P w K mg base 3 "_law_names" 1 sp_namesL := cal_namesL C_takeL m_len m_range F_namesL (He.glo_ok X G (cd.fact 49 (f := .glo "_law_names") rfl))
  have C_untilL : Cal P w K mg base 3 "_law_until" 2 sp_untilL := cal_untilL C_shareL C_takeL F_untilL (He.glo_ok X G (cd.fact 53 (f := .glo "_law_until") rfl))
  have C_uprightL : Cal P w K mg base 3 "_law_upright" 2 sp_uprightL := cal_uprightL C_spot_plusL C_spot_timesL C_wayL F_uprightL (He.glo_ok X G (cd.fact 55 (f := .glo "_law_upright") rfl))
  have C_spot_minus : Cal P w K mg base 4 "spot_minus" 2 sp_spot_minus := cal_spot_minus C_minus m_tuple m_zip F_spot_minus (He.glo_ok X G (cd.fact 12 (f := .glo "spot_minus") rfl))
  have C_pair_ways : Cal P w K mg base 4 "pair_ways" 2 sp_pair_ways := cal_pair_ways C_sides C_turned_way m_list m_sorted m_tuple F_pair_ways (He.glo_ok X G (cd.fact 16 (f := .glo "pair_ways") rfl))
  have C_entered : Cal P w K mg base 4 "entered" 1 sp_entered := cal_entered C_order C_over F_entered (He.glo_ok X G (cd.fact 21 (f := .glo "entered") rfl))
  have C_numberL : Cal P w K mg base 4 "_law_number" 2 sp_numberL := cal_numberL C_longL C_takeL F_numberL (He.glo_ok X G (cd.fact 38 (f := .glo "_law_number") rfl))
  have C_pair_waysL : Cal P w K mg base 4 "_law_pair_ways" 2 sp_pair_waysL := cal_pair_waysL C_waysL m_sorted F_pair_waysL (He.glo_ok X G (cd.fact 43 (f := .glo "_law_pair_ways") rfl))
  have C_drawnL : Cal P w K mg base 4 "_law_drawn" 2 sp_drawnL := cal_drawnL C_longL C_shareL C_takeL F_drawnL (He.glo_ok X G (cd.fact 50 (f := .glo "_law_drawn") rfl))
  have C_rate : Cal P w K mg base 5 "rate" 3 sp_rate := cal_rate C_along C_spot_minus F_rate (He.glo_ok X G (cd.fact 17 (f := .glo "rate") rfl))
  have C_upright_ways : Cal P w K mg base 5 "upright_ways" 2 sp_upright_ways := cal_upright_ways C_spot_minus C_way_of F_upright_ways (He.glo_ok X G (cd.fact 20 (f := .glo "upright_ways") rfl))
  have C_eightL : Cal P w K mg base 5 "_law_eight" 2 sp_eightL := cal_eightL C_numberL m_abs m_range m_tuple F_eightL (He.glo_ok X G (cd.fact 39 (f := .glo "_law_eight") rfl))
  have C_roomsL : Cal P w K mg base 5 "_law_rooms" 3 sp_roomsL := cal_roomsL C_betweenL C_pair_waysL C_roomL F_roomsL (He.glo_ok X G (cd.fact 47 (f := .glo "_law_rooms") rfl))
  have C_crossingsL : Cal P w K mg base 5 "_law_crossings" 2 sp_crossingsL := cal_crossingsL C_betweenL C_pair_waysL C_roomL C_shareL F_crossingsL (He.glo_ok X G (cd.fact 54 (f := .glo "_law_crossings") rfl))
  have C_gap : Cal P w K mg base 6 "gap" 4 sp_gap := cal_gap C_along C_minus C_plus C_rate C_reach C_spot_minus C_times C_turned_way F_gap (He.glo_ok X G (cd.fact 18 (f := .glo "gap") rfl))
  have C_gap3 : Cal P w K mg base 6 "gap" 3 sp_gap3 := cal_gap3 C_along C_minus C_plus C_rate C_reach C_spot_minus C_times C_turned_way F_gap h0 rfl (He.glo_ok X G (cd.fact 18 (f := .glo "gap") rfl))
  have C_shapeL : Cal P w K mg base 6 "_law_shape" 2 sp_shapeL := cal_shapeL C_eightL C_halfL C_numberL C_takeL m_abs m_len m_range m_sorted m_tuple F_shapeL (He.glo_ok X G (cd.fact 40 (f := .glo "_law_shape") rfl))
  have C_overL : Cal P w K mg base 6 "_law_over" 3 sp_overL := cal_overL C_roomsL m_max F_overL (He.glo_ok X G (cd.fact 48 (f := .glo "_law_over") rfl))
  have C_papersL : Cal P w K mg base 6 "_law_papers" 3 sp_papersL := cal_papersL C_crossingsL C_pair_waysL C_plusL C_shareL C_takeL C_uprightL C_wayL m_len m_range F_papersL (He.glo_ok X G (cd.fact 57 (f := .glo "_law_papers") rfl))
  have C_first : Cal P w K mg base 7 "first" 3 sp_first := cal_first C_entered C_gap3 C_names_of C_order C_pair_ways C_plus C_rate C_times C_upright_ways m_max F_first (He.glo_ok X G (cd.fact 22 (f := .glo "first") rfl))
  have C_meets_now : Cal P w K mg base 7 "meets_now" 3 sp_meets_now := cal_meets_now C_gap C_pair_ways C_rate F_meets_now (He.glo_ok X G (cd.fact 23 (f := .glo "meets_now") rfl))
  have C_rowL : Cal P w K mg base 7 "_law_row" 5 sp_rowL := cal_rowL C_drawnL C_shapeL C_spotL C_spot_timesL C_takeL C_wayL F_rowL (He.glo_ok X G (cd.fact 51 (f := .glo "_law_row") rfl))
  have C_first_held : Cal P w K mg base 8 "first_held" 4 sp_first_held := cal_first_held C_gap C_gap3 C_is_share C_is_way C_meets_now C_order C_pair_ways C_rate m_isinstance m_len m_tuple F_first_held (He.glo_ok X G (cd.fact 24 (f := .glo "first_held") rfl))
  have C_pairL : Cal P w K mg base 8 "_law_pair" 1 sp_pairL := cal_pairL C_namesL C_rowL C_shareL C_spotL C_spot_plusL C_spot_timesL C_takeL m_len F_pairL (He.glo_ok X G (cd.fact 52 (f := .glo "_law_pair") rfl))
  have C_told_is_rightL : Cal P w K mg base 9 "_law_told_is_right" 4 sp_told_is_rightL := cal_told_is_rightL C_first C_first_held C_turnedL F_told_is_rightL (He.glo_ok X G (cd.fact 58 (f := .glo "_law_told_is_right") rfl))
  exact fn_law C_deckL C_first C_first_held C_overL C_pairL C_papersL C_plusL C_shareL C_takeL C_told_is_rightL C_untilL F_law
end K23
namespace K23
open PySem PySem.Spec PyProof.Rows L2
theorem law_start {K : PySem.W.Frag} {H : Hp} {a : Addr} {ns : List Int} (hl : ns.length ≤ 63) (hS : SqL K H a (ns.map V.int)) : spD K 1 sp_law [.ref a] H (fun v _ => v = .bl true) (fun _ _ _ => False) := by
  refine ⟨[.lst (ns.map D.int)], ⟨none, none⟩, H, ⟨H, H, none⟩, fun d _ => d = .bl true, .cons (.lst hS Reps.of_ints) .nil, rfl, ?_, rfl, ⟨ns, rfl, hl, rfl, fun _ => rfl⟩, ?_⟩
  · exact { sub := Same.refl _, subB := Same.refl _, fresh := fun _ _ e => .inl e, keep := fun _ _ e _ => e, dk := fun _ e => (by cases e), dkn := fun _ e => (by cases e), dk0 := fun _ e => (by cases e), ow := fun _ _ e => (by cases e) }
  · rintro d m' v F' H' rfl _ _ p
    cases p
    rfl
end K23
open PySem PySem.W PySem.Calls PyProof.Rows
theorem PySem.Challenge.cw_restbodies_k23_whole_first_one_time_holds : PySem.Challenge.rw_restbodies_k23_whole_first_one_time.Holds := by
  w_on; o_law
  refine HandSHeadRun.head_any (r := OpenLaw.row PySem.Challenge.rw_restbodies_k23_whole_first_one_time) (q := view (OpenLaw.row PySem.Challenge.rw_restbodies_k23_whole_first_one_time).prog [71]) (H := K23.hk) (ob := K23.ob) (M := 4000) (loose := K23.loose) (d := HandSHeadRun.topDef (OpenLaw.row PySem.Challenge.rw_restbodies_k23_whole_first_one_time).prog 71) (kwd := []) K23.ob_eq
    (by kernel_rfl) (fun s => by kernel_rfl) K23.run (by kernel_rfl) (by kernel_rfl) (by kernel_rfl) (by rfl) (by first | assumption | decide +kernel) (by decide +kernel) ⟨rfl, rfl, rfl, rfl, rfl, by decide +kernel⟩ ?hw ?hc
  case hw => w_witness2
  case hc =>
    refine L2.walk_ofE (l := PySem.Challenge.rw_restbodies_k23_whole_first_one_time) (n := 63) (k := 10) (x := "_law_script") (CX := L2.CX0) rfl (by decide) (by kernel_rfl) ⟨rfl, by decide, by decide⟩ ?F (fun _ _ _ _ z => z)
    intro w mg fa h Y G hmg0
    obtain ⟨K, KX, c⟩ := Y
    have hmg : mg ("law" : PySem.Str) = some (.ref fa) := by
      have e : (HandSHeadRun.topDef (OpenLaw.row PySem.Challenge.rw_restbodies_k23_whole_first_one_time).prog 71).name = ("law" : PySem.Str) := by kernel_rfl
      rw [← e]
      exact hmg0
    obtain ⟨fd, hb, hF⟩ := K23.facts (P := (PySem.Challenge.rw_restbodies_k23_whole_first_one_time).prog) (w := w) KX G hmg c
    exact ⟨K, fd, K23.spD K 1 K23.sp_law, KX, hb, fun H a ns hl _ hS => K23.law_start hl hS, hF⟩
