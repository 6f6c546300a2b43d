import PyProof.Rows.All
import Wide.All
import OpenK.AllK
import Wide.FinOn
import KE.KStateDown
import HandS.ForMost
import HandS.Defaults
import HandS.Evl
import HandS.IsInst
import HandS.Conv
import HandS.TupLe
import HandS.Walk
import HandS.Wide
import HandS.TupSets
import HandS.DictTup
import HandS.More
import KE.KDictKeyed
import KE.GoesMore
import HandS.Head0
import HandS.Head1
import HandS.Head2
import HandS.HeadEnd
import HandS.HeadHook1
import HandS.HeadHook2
import PySem.Challenge.RW_cutstree_k78_whole_flow_led_many
set_option Elab.async false
set_option linter.all false
set_option maxRecDepth 100000
set_option maxHeartbeats 0

namespace Cut
open PySem PySem.Spec PyProof.Rows L2
/-! ### the text by places -/
def top (i : Nat) : Stmt := PySem.Challenge.pw_cutstree_k78_whole_flow_led_many.main.body.getD i (.Pass ⟨0, 0, 0, 0⟩)
abbrev s_is_whole : Stmt := top 11
abbrev s_is_row : Stmt := top 12
abbrev s_as_tuples : Stmt := top 13
abbrev s_divisor : Stmt := top 14
abbrev s_is_amount : Stmt := top 15
abbrev s_is_weight : Stmt := top 16
abbrev s_in_least_terms : Stmt := top 17
abbrev s_plus : Stmt := top 18
abbrev s_is_below : Stmt := top 19
abbrev s_total : Stmt := top 20
abbrev s_are_rising : Stmt := top 22
abbrev s_are_ends : Stmt := top 24
abbrev s_ask_ends : Stmt := top 25
abbrev s_is_flow_row : Stmt := top 26
abbrev s_are_flow_rows : Stmt := top 27
abbrev s_going_out : Stmt := top 28
abbrev s_coming_in : Stmt := top 29
abbrev s_is_balanced : Stmt := top 30
abbrev s_fits : Stmt := top 31
abbrev s_is_flow : Stmt := top 32
abbrev s_lowest : Stmt := top 34
abbrev s_rooms_of : Stmt := top 36
abbrev s_reached : Stmt := top 37
abbrev s_leading : Stmt := top 38
abbrev s_steps_to : Stmt := top 39
abbrev s_way_with : Stmt := top 40
abbrev s_filled : Stmt := top 41
abbrev s_are_places : Stmt := top 45
abbrev s_is_tie : Stmt := top 46
abbrev s_wrong_tie : Stmt := top 47
abbrev s_weights_in : Stmt := top 48
abbrev s_put_weights : Stmt := top 49
abbrev s_are_loose_rows : Stmt := top 51
abbrev s_is_loose : Stmt := top 52
abbrev s_led_flow : Stmt := top 54
abbrev s_first_bound : Stmt := top 56
abbrev s_halved_flow : Stmt := top 57
abbrev s_shortest_flow : Stmt := top 59
abbrev s_rooms_left : Stmt := top 61
abbrev s_near_side : Stmt := top 62
abbrev s_far_side : Stmt := top 63
abbrev s_pushed_flow : Stmt := top 66
abbrev s_law_cell : Stmt := top 68
abbrev s_law_draws : Stmt := top 69
abbrev s_law_next : Stmt := top 70
abbrev s_law_of : Stmt := top 71
abbrev s_law_weight : Stmt := top 72
abbrev s_law_order : Stmt := top 73
abbrev s_law_pairs : Stmt := top 74
abbrev s_law_web : Stmt := top 75
abbrev s_law_rows : Stmt := top 76
abbrev s_law_parts : Stmt := top 77
abbrev s_law_amount : Stmt := top 78
abbrev s_law_ends : Stmt := top 79
abbrev s_law_side_parts : Stmt := top 80
abbrev s_law_sides_between : Stmt := top 81
abbrev s_law_least_sides : Stmt := top 82
abbrev s_law_measure : Stmt := top 83
abbrev s_law_are_rows : Stmt := top 84
abbrev s_law_worth : Stmt := top 85
abbrev s_law_new_weight : Stmt := top 86
abbrev s_law_changed : Stmt := top 87
abbrev s_law_turned : Stmt := top 88
abbrev s_law_is_greatest : Stmt := top 89
abbrev s_law : Stmt := top 90
abbrev s_Rooms_init__ : Stmt := inClass (top 35) 0
abbrev s_Rooms_meet : Stmt := inClass (top 35) 1
abbrev s_Rooms_parts : Stmt := inClass (top 35) 2
abbrev s_Rooms_spare : Stmt := inClass (top 35) 3
abbrev s_Rooms_put : Stmt := inClass (top 35) 5
abbrev s_Rooms_carry : Stmt := inClass (top 35) 6
abbrev s_Rooms_least_room : Stmt := inClass (top 35) 8
abbrev s_Rooms_flow : Stmt := inClass (top 35) 9
abbrev s_Web_init__ : Stmt := inClass (top 44) 0
abbrev s_Web_tie : Stmt := inClass (top 44) 1
abbrev s_Nets_init__ : Stmt := inClass (top 53) 0
abbrev s_Nets_surplus : Stmt := inClass (top 53) 1
abbrev s_Nets_cut_down : Stmt := inClass (top 53) 2
abbrev s_Nets_row_at : Stmt := inClass (top 53) 3
abbrev s_Nets_walk : Stmt := inClass (top 53) 4
abbrev s_Nets_settle : Stmt := inClass (top 53) 5
abbrev s_Nets_balance : Stmt := inClass (top 53) 6
abbrev s_Heights_init__ : Stmt := inClass (top 65) 0
abbrev s_Heights_push : Stmt := inClass (top 65) 1
abbrev s_Heights_lift : Stmt := inClass (top 65) 2
abbrev s_Heights_clear : Stmt := inClass (top 65) 3
abbrev s_Heights_waiting : Stmt := inClass (top 65) 4
/-! ### what stands behind the top -/
/-- a def of the module -/
def DefAt (K : PySem.W.Frag) (mg : Str → Option Value) (x : Str) (st : Stmt) : Prop := ∃ (f : Addr) (fd : FuncData), mg x = some (.ref f) ∧ FunD K x x (defArgs st) (defBody st) (defScope st) [] [] f fd
/-- a method of the class at C -/
def MetAt (K : PySem.W.Frag) (C : Addr) (x q : Str) (st : Stmt) : Prop := ∃ (f : Addr) (fd : FuncData), Meth K C x f ∧ FunD K x q (defArgs st) (defBody st) (defScope st) [] [] f fd
/-- an own class: where it stands, that it is plain, that it is made by its __init__ -/
structure OwnCls (K : PySem.W.Frag) (mg : Str → Option Value) (x q : Str) (st : Stmt) (C : Addr) : Prop where
  mg : mg x = some (.ref C)
  cl : Cls K C
  made : ∃ (f : Addr) (fd : FuncData), Mk K C f ∧ FunD K "__init__" q (defArgs st) (defBody st) (defScope st) [] [] f fd
/-- the built-in names are the built-in things, the constants are as written -/
structure Blt (K : PySem.W.Frag) (mg : Str → Option Value) : Prop where
  b_isinstance : mg "isinstance" = none
  b_int : mg "int" = none
  b_bool : mg "bool" = none
  b_list : mg "list" = none
  b_tuple : mg "tuple" = none
  b_len : mg "len" = none
  b_range : mg "range" = none
  b_min : mg "min" = none
  b_max : mg "max" = none
  b_sorted : mg "sorted" = none
  b_dict : mg "dict" = none
  b_enumerate : mg "enumerate" = none
  b_zip : mg "zip" = none
  b_abs : mg "abs" = none
  b_sum : mg "sum" = none
  b_set : mg "set" = none
  MOST_ABOVE : ∃ t, mg "MOST_ABOVE" = some (.int 1000000000000 t)
  BELOW : ∃ t, mg "BELOW" = some (.int 55440 t)
  MOST_PLACES : ∃ t, mg "MOST_PLACES" = some (.int 40 t)
  NOUGHT : ∃ a, mg "NOUGHT" = some (.ref a) ∧ ∀ H : Hp, SqT K H a [.int 0, .int 1]
structure NRooms (K : PySem.W.Frag) (C : Addr) : Prop where
  size : NoAttr K C "size"
  weights : NoAttr K C "weights"
  brought : NoAttr K C "brought"
  close : NoAttr K C "close"
structure NWeb (K : PySem.W.Frag) (C : Addr) : Prop where
  many : NoAttr K C "many"
  weights : NoAttr K C "weights"
  ties : NoAttr K C "ties"
structure NNets (K : PySem.W.Frag) (C : Addr) : Prop where
  rooms : NoAttr K C "rooms"
  ends : NoAttr K C "ends"
  rows : NoAttr K C "rows"
structure NHeights (K : PySem.W.Frag) (C : Addr) : Prop where
  rooms : NoAttr K C "rooms"
  ends : NoAttr K C "ends"
  heights : NoAttr K C "heights"
  too_much : NoAttr K C "too_much"
/-- all that the top has left -/
structure Tops (K : PySem.W.Frag) (mg : Str → Option Value) (CRooms CWeb CNets CHeights : Addr) : Prop where
  b : Blt K mg
  cRooms : OwnCls K mg "Rooms" "Rooms.__init__" s_Rooms_init__ CRooms
  nRooms : NRooms K CRooms
  cWeb : OwnCls K mg "Web" "Web.__init__" s_Web_init__ CWeb
  nWeb : NWeb K CWeb
  cNets : OwnCls K mg "Nets" "Nets.__init__" s_Nets_init__ CNets
  nNets : NNets K CNets
  cHeights : OwnCls K mg "Heights" "Heights.__init__" s_Heights_init__ CHeights
  nHeights : NHeights K CHeights
  is_whole : DefAt K mg "is_whole" s_is_whole
  is_row : DefAt K mg "is_row" s_is_row
  as_tuples : DefAt K mg "as_tuples" s_as_tuples
  divisor : DefAt K mg "divisor" s_divisor
  is_amount : DefAt K mg "is_amount" s_is_amount
  is_weight : DefAt K mg "is_weight" s_is_weight
  in_least_terms : DefAt K mg "in_least_terms" s_in_least_terms
  plus : DefAt K mg "plus" s_plus
  is_below : DefAt K mg "is_below" s_is_below
  total : DefAt K mg "total" s_total
  are_rising : DefAt K mg "are_rising" s_are_rising
  are_ends : DefAt K mg "are_ends" s_are_ends
  ask_ends : DefAt K mg "ask_ends" s_ask_ends
  is_flow_row : DefAt K mg "is_flow_row" s_is_flow_row
  are_flow_rows : DefAt K mg "are_flow_rows" s_are_flow_rows
  going_out : DefAt K mg "going_out" s_going_out
  coming_in : DefAt K mg "coming_in" s_coming_in
  is_balanced : DefAt K mg "is_balanced" s_is_balanced
  fits : DefAt K mg "fits" s_fits
  is_flow : DefAt K mg "is_flow" s_is_flow
  lowest : DefAt K mg "lowest" s_lowest
  rooms_of : DefAt K mg "rooms_of" s_rooms_of
  reached : DefAt K mg "reached" s_reached
  leading : DefAt K mg "leading" s_leading
  steps_to : DefAt K mg "steps_to" s_steps_to
  way_with : DefAt K mg "way_with" s_way_with
  filled : DefAt K mg "filled" s_filled
  are_places : DefAt K mg "are_places" s_are_places
  is_tie : DefAt K mg "is_tie" s_is_tie
  wrong_tie : DefAt K mg "wrong_tie" s_wrong_tie
  weights_in : DefAt K mg "weights_in" s_weights_in
  put_weights : DefAt K mg "put_weights" s_put_weights
  are_loose_rows : DefAt K mg "are_loose_rows" s_are_loose_rows
  is_loose : DefAt K mg "is_loose" s_is_loose
  led_flow : DefAt K mg "led_flow" s_led_flow
  first_bound : DefAt K mg "first_bound" s_first_bound
  halved_flow : DefAt K mg "halved_flow" s_halved_flow
  shortest_flow : DefAt K mg "shortest_flow" s_shortest_flow
  rooms_left : DefAt K mg "rooms_left" s_rooms_left
  near_side : DefAt K mg "near_side" s_near_side
  far_side : DefAt K mg "far_side" s_far_side
  pushed_flow : DefAt K mg "pushed_flow" s_pushed_flow
  law_cell : DefAt K mg "_law_cell" s_law_cell
  law_draws : DefAt K mg "_law_draws" s_law_draws
  law_next : DefAt K mg "_law_next" s_law_next
  law_of : DefAt K mg "_law_of" s_law_of
  law_weight : DefAt K mg "_law_weight" s_law_weight
  law_order : DefAt K mg "_law_order" s_law_order
  law_pairs : DefAt K mg "_law_pairs" s_law_pairs
  law_web : DefAt K mg "_law_web" s_law_web
  law_rows : DefAt K mg "_law_rows" s_law_rows
  law_parts : DefAt K mg "_law_parts" s_law_parts
  law_amount : DefAt K mg "_law_amount" s_law_amount
  law_ends : DefAt K mg "_law_ends" s_law_ends
  law_side_parts : DefAt K mg "_law_side_parts" s_law_side_parts
  law_sides_between : DefAt K mg "_law_sides_between" s_law_sides_between
  law_least_sides : DefAt K mg "_law_least_sides" s_law_least_sides
  law_measure : DefAt K mg "_law_measure" s_law_measure
  law_are_rows : DefAt K mg "_law_are_rows" s_law_are_rows
  law_worth : DefAt K mg "_law_worth" s_law_worth
  law_new_weight : DefAt K mg "_law_new_weight" s_law_new_weight
  law_changed : DefAt K mg "_law_changed" s_law_changed
  law_turned : DefAt K mg "_law_turned" s_law_turned
  law_is_greatest : DefAt K mg "_law_is_greatest" s_law_is_greatest
  law : DefAt K mg "law" s_law
  Rooms_meet : MetAt K CRooms "meet" "Rooms.meet" s_Rooms_meet
  Rooms_parts : MetAt K CRooms "parts" "Rooms.parts" s_Rooms_parts
  Rooms_spare : MetAt K CRooms "spare" "Rooms.spare" s_Rooms_spare
  Rooms_put : MetAt K CRooms "put" "Rooms.put" s_Rooms_put
  Rooms_carry : MetAt K CRooms "carry" "Rooms.carry" s_Rooms_carry
  Rooms_least_room : MetAt K CRooms "least_room" "Rooms.least_room" s_Rooms_least_room
  Rooms_flow : MetAt K CRooms "flow" "Rooms.flow" s_Rooms_flow
  Web_tie : MetAt K CWeb "tie" "Web.tie" s_Web_tie
  Nets_surplus : MetAt K CNets "surplus" "Nets.surplus" s_Nets_surplus
  Nets_cut_down : MetAt K CNets "cut_down" "Nets.cut_down" s_Nets_cut_down
  Nets_row_at : MetAt K CNets "row_at" "Nets.row_at" s_Nets_row_at
  Nets_walk : MetAt K CNets "walk" "Nets.walk" s_Nets_walk
  Nets_settle : MetAt K CNets "settle" "Nets.settle" s_Nets_settle
  Nets_balance : MetAt K CNets "balance" "Nets.balance" s_Nets_balance
  Heights_push : MetAt K CHeights "push" "Heights.push" s_Heights_push
  Heights_lift : MetAt K CHeights "lift" "Heights.lift" s_Heights_lift
  Heights_clear : MetAt K CHeights "clear" "Heights.clear" s_Heights_clear
  Heights_waiting : MetAt K CHeights "waiting" "Heights.waiting" s_Heights_waiting
end Cut

namespace Cut
open PySem PySem.Spec PyProof.Rows L2
/-! ### the head: facts by names, the run -/
def d_is_whole : He.DefD := ⟨("is_whole", none), "is_whole", "is_whole", defArgs s_is_whole, defBody s_is_whole, defScope s_is_whole, [], []⟩
def d_is_row : He.DefD := ⟨("is_row", none), "is_row", "is_row", defArgs s_is_row, defBody s_is_row, defScope s_is_row, [], []⟩
def d_as_tuples : He.DefD := ⟨("as_tuples", none), "as_tuples", "as_tuples", defArgs s_as_tuples, defBody s_as_tuples, defScope s_as_tuples, [], []⟩
def d_divisor : He.DefD := ⟨("divisor", none), "divisor", "divisor", defArgs s_divisor, defBody s_divisor, defScope s_divisor, [], []⟩
def d_is_amount : He.DefD := ⟨("is_amount", none), "is_amount", "is_amount", defArgs s_is_amount, defBody s_is_amount, defScope s_is_amount, [], []⟩
def d_is_weight : He.DefD := ⟨("is_weight", none), "is_weight", "is_weight", defArgs s_is_weight, defBody s_is_weight, defScope s_is_weight, [], []⟩
def d_in_least_terms : He.DefD := ⟨("in_least_terms", none), "in_least_terms", "in_least_terms", defArgs s_in_least_terms, defBody s_in_least_terms, defScope s_in_least_terms, [], []⟩
def d_plus : He.DefD := ⟨("plus", none), "plus", "plus", defArgs s_plus, defBody s_plus, defScope s_plus, [], []⟩
def d_is_below : He.DefD := ⟨("is_below", none), "is_below", "is_below", defArgs s_is_below, defBody s_is_below, defScope s_is_below, [], []⟩
def d_total : He.DefD := ⟨("total", none), "total", "total", defArgs s_total, defBody s_total, defScope s_total, [], []⟩
def d_are_rising : He.DefD := ⟨("are_rising", none), "are_rising", "are_rising", defArgs s_are_rising, defBody s_are_rising, defScope s_are_rising, [], []⟩
def d_are_ends : He.DefD := ⟨("are_ends", none), "are_ends", "are_ends", defArgs s_are_ends, defBody s_are_ends, defScope s_are_ends, [], []⟩
def d_ask_ends : He.DefD := ⟨("ask_ends", none), "ask_ends", "ask_ends", defArgs s_ask_ends, defBody s_ask_ends, defScope s_ask_ends, [], []⟩
def d_is_flow_row : He.DefD := ⟨("is_flow_row", none), "is_flow_row", "is_flow_row", defArgs s_is_flow_row, defBody s_is_flow_row, defScope s_is_flow_row, [], []⟩
def d_are_flow_rows : He.DefD := ⟨("are_flow_rows", none), "are_flow_rows", "are_flow_rows", defArgs s_are_flow_rows, defBody s_are_flow_rows, defScope s_are_flow_rows, [], []⟩
def d_going_out : He.DefD := ⟨("going_out", none), "going_out", "going_out", defArgs s_going_out, defBody s_going_out, defScope s_going_out, [], []⟩
def d_coming_in : He.DefD := ⟨("coming_in", none), "coming_in", "coming_in", defArgs s_coming_in, defBody s_coming_in, defScope s_coming_in, [], []⟩
def d_is_balanced : He.DefD := ⟨("is_balanced", none), "is_balanced", "is_balanced", defArgs s_is_balanced, defBody s_is_balanced, defScope s_is_balanced, [], []⟩
def d_fits : He.DefD := ⟨("fits", none), "fits", "fits", defArgs s_fits, defBody s_fits, defScope s_fits, [], []⟩
def d_is_flow : He.DefD := ⟨("is_flow", none), "is_flow", "is_flow", defArgs s_is_flow, defBody s_is_flow, defScope s_is_flow, [], []⟩
def d_lowest : He.DefD := ⟨("lowest", none), "lowest", "lowest", defArgs s_lowest, defBody s_lowest, defScope s_lowest, [], []⟩
def d_rooms_of : He.DefD := ⟨("rooms_of", none), "rooms_of", "rooms_of", defArgs s_rooms_of, defBody s_rooms_of, defScope s_rooms_of, [], []⟩
def d_reached : He.DefD := ⟨("reached", none), "reached", "reached", defArgs s_reached, defBody s_reached, defScope s_reached, [], []⟩
def d_leading : He.DefD := ⟨("leading", none), "leading", "leading", defArgs s_leading, defBody s_leading, defScope s_leading, [], []⟩
def d_steps_to : He.DefD := ⟨("steps_to", none), "steps_to", "steps_to", defArgs s_steps_to, defBody s_steps_to, defScope s_steps_to, [], []⟩
def d_way_with : He.DefD := ⟨("way_with", none), "way_with", "way_with", defArgs s_way_with, defBody s_way_with, defScope s_way_with, [], []⟩
def d_filled : He.DefD := ⟨("filled", none), "filled", "filled", defArgs s_filled, defBody s_filled, defScope s_filled, [], []⟩
def d_are_places : He.DefD := ⟨("are_places", none), "are_places", "are_places", defArgs s_are_places, defBody s_are_places, defScope s_are_places, [], []⟩
def d_is_tie : He.DefD := ⟨("is_tie", none), "is_tie", "is_tie", defArgs s_is_tie, defBody s_is_tie, defScope s_is_tie, [], []⟩
def d_wrong_tie : He.DefD := ⟨("wrong_tie", none), "wrong_tie", "wrong_tie", defArgs s_wrong_tie, defBody s_wrong_tie, defScope s_wrong_tie, [], []⟩
def d_weights_in : He.DefD := ⟨("weights_in", none), "weights_in", "weights_in", defArgs s_weights_in, defBody s_weights_in, defScope s_weights_in, [], []⟩
def d_put_weights : He.DefD := ⟨("put_weights", none), "put_weights", "put_weights", defArgs s_put_weights, defBody s_put_weights, defScope s_put_weights, [], []⟩
def d_are_loose_rows : He.DefD := ⟨("are_loose_rows", none), "are_loose_rows", "are_loose_rows", defArgs s_are_loose_rows, defBody s_are_loose_rows, defScope s_are_loose_rows, [], []⟩
def d_is_loose : He.DefD := ⟨("is_loose", none), "is_loose", "is_loose", defArgs s_is_loose, defBody s_is_loose, defScope s_is_loose, [], []⟩
def d_led_flow : He.DefD := ⟨("led_flow", none), "led_flow", "led_flow", defArgs s_led_flow, defBody s_led_flow, defScope s_led_flow, [], []⟩
def d_first_bound : He.DefD := ⟨("first_bound", none), "first_bound", "first_bound", defArgs s_first_bound, defBody s_first_bound, defScope s_first_bound, [], []⟩
def d_halved_flow : He.DefD := ⟨("halved_flow", none), "halved_flow", "halved_flow", defArgs s_halved_flow, defBody s_halved_flow, defScope s_halved_flow, [], []⟩
def d_shortest_flow : He.DefD := ⟨("shortest_flow", none), "shortest_flow", "shortest_flow", defArgs s_shortest_flow, defBody s_shortest_flow, defScope s_shortest_flow, [], []⟩
def d_rooms_left : He.DefD := ⟨("rooms_left", none), "rooms_left", "rooms_left", defArgs s_rooms_left, defBody s_rooms_left, defScope s_rooms_left, [], []⟩
def d_near_side : He.DefD := ⟨("near_side", none), "near_side", "near_side", defArgs s_near_side, defBody s_near_side, defScope s_near_side, [], []⟩
def d_far_side : He.DefD := ⟨("far_side", none), "far_side", "far_side", defArgs s_far_side, defBody s_far_side, defScope s_far_side, [], []⟩
def d_pushed_flow : He.DefD := ⟨("pushed_flow", none), "pushed_flow", "pushed_flow", defArgs s_pushed_flow, defBody s_pushed_flow, defScope s_pushed_flow, [], []⟩
def d_law_cell : He.DefD := ⟨("_law_cell", none), "_law_cell", "_law_cell", defArgs s_law_cell, defBody s_law_cell, defScope s_law_cell, [], []⟩
def d_law_draws : He.DefD := ⟨("_law_draws", none), "_law_draws", "_law_draws", defArgs s_law_draws, defBody s_law_draws, defScope s_law_draws, [], []⟩
def d_law_next : He.DefD := ⟨("_law_next", none), "_law_next", "_law_next", defArgs s_law_next, defBody s_law_next, defScope s_law_next, [], []⟩
def d_law_of : He.DefD := ⟨("_law_of", none), "_law_of", "_law_of", defArgs s_law_of, defBody s_law_of, defScope s_law_of, [], []⟩
def d_law_weight : He.DefD := ⟨("_law_weight", none), "_law_weight", "_law_weight", defArgs s_law_weight, defBody s_law_weight, defScope s_law_weight, [], []⟩
def d_law_order : He.DefD := ⟨("_law_order", none), "_law_order", "_law_order", defArgs s_law_order, defBody s_law_order, defScope s_law_order, [], []⟩
def d_law_pairs : He.DefD := ⟨("_law_pairs", none), "_law_pairs", "_law_pairs", defArgs s_law_pairs, defBody s_law_pairs, defScope s_law_pairs, [], []⟩
def d_law_web : He.DefD := ⟨("_law_web", none), "_law_web", "_law_web", defArgs s_law_web, defBody s_law_web, defScope s_law_web, [], []⟩
def d_law_rows : He.DefD := ⟨("_law_rows", none), "_law_rows", "_law_rows", defArgs s_law_rows, defBody s_law_rows, defScope s_law_rows, [], []⟩
def d_law_parts : He.DefD := ⟨("_law_parts", none), "_law_parts", "_law_parts", defArgs s_law_parts, defBody s_law_parts, defScope s_law_parts, [], []⟩
def d_law_amount : He.DefD := ⟨("_law_amount", none), "_law_amount", "_law_amount", defArgs s_law_amount, defBody s_law_amount, defScope s_law_amount, [], []⟩
def d_law_ends : He.DefD := ⟨("_law_ends", none), "_law_ends", "_law_ends", defArgs s_law_ends, defBody s_law_ends, defScope s_law_ends, [], []⟩
def d_law_side_parts : He.DefD := ⟨("_law_side_parts", none), "_law_side_parts", "_law_side_parts", defArgs s_law_side_parts, defBody s_law_side_parts, defScope s_law_side_parts, [], []⟩
def d_law_sides_between : He.DefD := ⟨("_law_sides_between", none), "_law_sides_between", "_law_sides_between", defArgs s_law_sides_between, defBody s_law_sides_between, defScope s_law_sides_between, [], []⟩
def d_law_least_sides : He.DefD := ⟨("_law_least_sides", none), "_law_least_sides", "_law_least_sides", defArgs s_law_least_sides, defBody s_law_least_sides, defScope s_law_least_sides, [], []⟩
def d_law_measure : He.DefD := ⟨("_law_measure", none), "_law_measure", "_law_measure", defArgs s_law_measure, defBody s_law_measure, defScope s_law_measure, [], []⟩
def d_law_are_rows : He.DefD := ⟨("_law_are_rows", none), "_law_are_rows", "_law_are_rows", defArgs s_law_are_rows, defBody s_law_are_rows, defScope s_law_are_rows, [], []⟩
def d_law_worth : He.DefD := ⟨("_law_worth", none), "_law_worth", "_law_worth", defArgs s_law_worth, defBody s_law_worth, defScope s_law_worth, [], []⟩
def d_law_new_weight : He.DefD := ⟨("_law_new_weight", none), "_law_new_weight", "_law_new_weight", defArgs s_law_new_weight, defBody s_law_new_weight, defScope s_law_new_weight, [], []⟩
def d_law_changed : He.DefD := ⟨("_law_changed", none), "_law_changed", "_law_changed", defArgs s_law_changed, defBody s_law_changed, defScope s_law_changed, [], []⟩
def d_law_turned : He.DefD := ⟨("_law_turned", none), "_law_turned", "_law_turned", defArgs s_law_turned, defBody s_law_turned, defScope s_law_turned, [], []⟩
def d_law_is_greatest : He.DefD := ⟨("_law_is_greatest", none), "_law_is_greatest", "_law_is_greatest", defArgs s_law_is_greatest, defBody s_law_is_greatest, defScope s_law_is_greatest, [], []⟩
def d_law : He.DefD := ⟨("law", none), "law", "law", defArgs s_law, defBody s_law, defScope s_law, [], []⟩
def d_Rooms_init__ : He.DefD := ⟨("Rooms", some "__init__"), "__init__", "Rooms.__init__", defArgs s_Rooms_init__, defBody s_Rooms_init__, defScope s_Rooms_init__, [], []⟩
def d_Rooms_meet : He.DefD := ⟨("Rooms", some "meet"), "meet", "Rooms.meet", defArgs s_Rooms_meet, defBody s_Rooms_meet, defScope s_Rooms_meet, [], []⟩
def d_Rooms_parts : He.DefD := ⟨("Rooms", some "parts"), "parts", "Rooms.parts", defArgs s_Rooms_parts, defBody s_Rooms_parts, defScope s_Rooms_parts, [], []⟩
def d_Rooms_spare : He.DefD := ⟨("Rooms", some "spare"), "spare", "Rooms.spare", defArgs s_Rooms_spare, defBody s_Rooms_spare, defScope s_Rooms_spare, [], []⟩
def d_Rooms_put : He.DefD := ⟨("Rooms", some "put"), "put", "Rooms.put", defArgs s_Rooms_put, defBody s_Rooms_put, defScope s_Rooms_put, [], []⟩
def d_Rooms_carry : He.DefD := ⟨("Rooms", some "carry"), "carry", "Rooms.carry", defArgs s_Rooms_carry, defBody s_Rooms_carry, defScope s_Rooms_carry, [], []⟩
def d_Rooms_least_room : He.DefD := ⟨("Rooms", some "least_room"), "least_room", "Rooms.least_room", defArgs s_Rooms_least_room, defBody s_Rooms_least_room, defScope s_Rooms_least_room, [], []⟩
def d_Rooms_flow : He.DefD := ⟨("Rooms", some "flow"), "flow", "Rooms.flow", defArgs s_Rooms_flow, defBody s_Rooms_flow, defScope s_Rooms_flow, [], []⟩
def d_Web_init__ : He.DefD := ⟨("Web", some "__init__"), "__init__", "Web.__init__", defArgs s_Web_init__, defBody s_Web_init__, defScope s_Web_init__, [], []⟩
def d_Web_tie : He.DefD := ⟨("Web", some "tie"), "tie", "Web.tie", defArgs s_Web_tie, defBody s_Web_tie, defScope s_Web_tie, [], []⟩
def d_Nets_init__ : He.DefD := ⟨("Nets", some "__init__"), "__init__", "Nets.__init__", defArgs s_Nets_init__, defBody s_Nets_init__, defScope s_Nets_init__, [], []⟩
def d_Nets_surplus : He.DefD := ⟨("Nets", some "surplus"), "surplus", "Nets.surplus", defArgs s_Nets_surplus, defBody s_Nets_surplus, defScope s_Nets_surplus, [], []⟩
def d_Nets_cut_down : He.DefD := ⟨("Nets", some "cut_down"), "cut_down", "Nets.cut_down", defArgs s_Nets_cut_down, defBody s_Nets_cut_down, defScope s_Nets_cut_down, [], []⟩
def d_Nets_row_at : He.DefD := ⟨("Nets", some "row_at"), "row_at", "Nets.row_at", defArgs s_Nets_row_at, defBody s_Nets_row_at, defScope s_Nets_row_at, [], []⟩
def d_Nets_walk : He.DefD := ⟨("Nets", some "walk"), "walk", "Nets.walk", defArgs s_Nets_walk, defBody s_Nets_walk, defScope s_Nets_walk, [], []⟩
def d_Nets_settle : He.DefD := ⟨("Nets", some "settle"), "settle", "Nets.settle", defArgs s_Nets_settle, defBody s_Nets_settle, defScope s_Nets_settle, [], []⟩
def d_Nets_balance : He.DefD := ⟨("Nets", some "balance"), "balance", "Nets.balance", defArgs s_Nets_balance, defBody s_Nets_balance, defScope s_Nets_balance, [], []⟩
def d_Heights_init__ : He.DefD := ⟨("Heights", some "__init__"), "__init__", "Heights.__init__", defArgs s_Heights_init__, defBody s_Heights_init__, defScope s_Heights_init__, [], []⟩
def d_Heights_push : He.DefD := ⟨("Heights", some "push"), "push", "Heights.push", defArgs s_Heights_push, defBody s_Heights_push, defScope s_Heights_push, [], []⟩
def d_Heights_lift : He.DefD := ⟨("Heights", some "lift"), "lift", "Heights.lift", defArgs s_Heights_lift, defBody s_Heights_lift, defScope s_Heights_lift, [], []⟩
def d_Heights_clear : He.DefD := ⟨("Heights", some "clear"), "clear", "Heights.clear", defArgs s_Heights_clear, defBody s_Heights_clear, defScope s_Heights_clear, [], []⟩
def d_Heights_waiting : He.DefD := ⟨("Heights", some "waiting"), "waiting", "Heights.waiting", defArgs s_Heights_waiting, defBody s_Heights_waiting, defScope s_Heights_waiting, [], []⟩
def fn0 : List He.DefD := [d_is_whole, d_is_row, d_as_tuples, d_divisor, d_is_amount, d_is_weight, d_in_least_terms, d_plus, d_is_below, d_total, d_are_rising, d_are_ends, d_ask_ends, d_is_flow_row, d_are_flow_rows, d_going_out, d_coming_in, d_is_balanced, d_fits, d_is_flow, d_lowest, d_rooms_of, d_reached, d_leading, d_steps_to]
def fn1 : List He.DefD := [d_way_with, d_filled, d_are_places, d_is_tie, d_wrong_tie, d_weights_in, d_put_weights, d_are_loose_rows, d_is_loose, d_led_flow, d_first_bound, d_halved_flow, d_shortest_flow, d_rooms_left, d_near_side, d_far_side, d_pushed_flow, d_law_cell, d_law_draws, d_law_next, d_law_of, d_law_weight, d_law_order, d_law_pairs, d_law_web]
def fn2 : List He.DefD := [d_law_rows, d_law_parts, d_law_amount, d_law_ends, d_law_side_parts, d_law_sides_between, d_law_least_sides, d_law_measure, d_law_are_rows, d_law_worth, d_law_new_weight, d_law_changed, d_law_turned, d_law_is_greatest, d_law, d_Rooms_init__, d_Rooms_meet, d_Rooms_parts, d_Rooms_spare, d_Rooms_put, d_Rooms_carry, d_Rooms_least_room, d_Rooms_flow, d_Web_init__, d_Web_tie]
def fn3 : List He.DefD := [d_Nets_init__, d_Nets_surplus, d_Nets_cut_down, d_Nets_row_at, d_Nets_walk, d_Nets_settle, d_Nets_balance, d_Heights_init__, d_Heights_push, d_Heights_lift, d_Heights_clear, d_Heights_waiting]
def fn : List He.DefD := fn0 ++ (fn1 ++ (fn2 ++ (fn3)))
def fa0 : List He.Fa := [.glo "is_whole", .glo "is_row", .glo "as_tuples", .glo "divisor", .glo "is_amount", .glo "is_weight", .glo "in_least_terms", .glo "plus", .glo "is_below", .glo "total", .glo "are_rising", .glo "are_ends", .glo "ask_ends", .glo "is_flow_row", .glo "are_flow_rows", .glo "going_out", .glo "coming_in", .glo "is_balanced", .glo "fits", .glo "is_flow", .glo "lowest", .glo "rooms_of", .glo "reached", .glo "leading", .glo "steps_to"]
def fa1 : List He.Fa := [.glo "way_with", .glo "filled", .glo "are_places", .glo "is_tie", .glo "wrong_tie", .glo "weights_in", .glo "put_weights", .glo "are_loose_rows", .glo "is_loose", .glo "led_flow", .glo "first_bound", .glo "halved_flow", .glo "shortest_flow", .glo "rooms_left", .glo "near_side", .glo "far_side", .glo "pushed_flow", .glo "_law_cell", .glo "_law_draws", .glo "_law_next", .glo "_law_of", .glo "_law_weight", .glo "_law_order", .glo "_law_pairs", .glo "_law_web"]
def fa2 : List He.Fa := [.glo "_law_rows", .glo "_law_parts", .glo "_law_amount", .glo "_law_ends", .glo "_law_side_parts", .glo "_law_sides_between", .glo "_law_least_sides", .glo "_law_measure", .glo "_law_are_rows", .glo "_law_worth", .glo "_law_new_weight", .glo "_law_changed", .glo "_law_turned", .glo "_law_is_greatest", .glo "law", .glo "Rooms", .cls "Rooms", .mkr "Rooms", .noat "Rooms" "size", .noat "Rooms" "weights", .noat "Rooms" "brought", .noat "Rooms" "close", .glo "Web", .cls "Web", .mkr "Web"]
def fa3 : List He.Fa := [.noat "Web" "many", .noat "Web" "weights", .noat "Web" "ties", .glo "Nets", .cls "Nets", .mkr "Nets", .noat "Nets" "rooms", .noat "Nets" "ends", .noat "Nets" "rows", .glo "Heights", .cls "Heights", .mkr "Heights", .noat "Heights" "rooms", .noat "Heights" "ends", .noat "Heights" "heights", .noat "Heights" "too_much", .meth "Rooms" "meet", .meth "Rooms" "parts", .meth "Rooms" "spare", .meth "Rooms" "put", .meth "Rooms" "carry", .meth "Rooms" "least_room", .meth "Rooms" "flow", .meth "Web" "tie", .meth "Nets" "surplus"]
def fa4 : List He.Fa := [.meth "Nets" "cut_down", .meth "Nets" "row_at", .meth "Nets" "walk", .meth "Nets" "settle", .meth "Nets" "balance", .meth "Heights" "push", .meth "Heights" "lift", .meth "Heights" "clear", .meth "Heights" "waiting", .free "isinstance", .free "int", .free "bool", .free "list", .free "tuple", .free "len", .free "range", .free "min", .free "max", .free "sorted", .free "dict", .free "enumerate", .free "zip", .free "abs", .free "sum", .free "set"]
def fa5 : List He.Fa := [.int "MOST_ABOVE" 1000000000000, .int "BELOW" 55440, .int "MOST_PLACES" 40, .glo "NOUGHT"]
def fa : List He.Fa := fa0 ++ (fa1 ++ (fa2 ++ (fa3 ++ (fa4 ++ (fa5)))))
def loose0 : List Str := ["_wall", "CutError", "NoPlace", "NoTie", "NoFlow", "NotGreatest", "MOST_ABOVE", "BELOW", "NOUGHT", "is_whole", "is_row", "as_tuples", "divisor", "is_amount", "is_weight", "in_least_terms", "plus", "is_below", "total", "are_rising", "are_ends", "ask_ends", "is_flow_row", "are_flow_rows", "going_out"]
def loose1 : List Str := ["coming_in", "is_balanced", "fits", "is_flow", "lowest", "Rooms", "rooms_of", "reached", "leading", "steps_to", "way_with", "filled", "MOST_PLACES", "Web", "are_places", "is_tie", "wrong_tie", "weights_in", "put_weights", "are_loose_rows", "is_loose", "Nets", "led_flow", "first_bound", "halved_flow"]
def loose2 : List Str := ["shortest_flow", "rooms_left", "near_side", "far_side", "Heights", "pushed_flow", "_law_cell", "_law_draws", "_law_next", "_law_of", "_law_weight", "_law_order", "_law_pairs", "_law_web", "_law_rows", "_law_parts", "_law_amount", "_law_ends", "_law_side_parts", "_law_sides_between", "_law_least_sides", "_law_measure", "_law_are_rows", "_law_worth", "_law_new_weight"]
def loose3 : List Str := ["_law_changed", "_law_turned", "_law_is_greatest"]
def loose : List Str := loose0 ++ (loose1 ++ (loose2 ++ (loose3)))
def exB (K : PySem.W.Frag) : Bool := He.tupB K "NOUGHT" [.int 0, .int 1]
abbrev R : PySem.W.OpenRow := PySem.W.OpenLaw.row PySem.Challenge.rw_cutstree_k78_whole_flow_led_many
/-- what an object names, code objects left out -/
def refsC (o : Obj) : List Addr := match o.data with
  | .seq its _ => its.toList.flatMap He.refV
  | .dict es _ => es.toList.flatMap fun e => He.refV e.val
  | .func fd => He.refV fd.code
  | .cls cd => cd.ns :: cd.mro.flatMap He.refV
  | _ => []
def frN {a : Type} (n : Nat) (k : Nat -> a) : a := match n with
  | 0 => k 0
  | m + 1 => k (m + 1)
theorem frN_eq {a : Type} (n : Nat) (k : Nat -> a) : frN n k = k n := by
  cases n <;> rfl
/-- a list of numbers, told out -/
def frL {a : Type} : List Nat -> (List Nat -> a) -> a
  | [], k => k []
  | x :: r, k => frN x fun x => frL r fun r => k (x :: r)
theorem frL_eq {a : Type} : forall (l : List Nat) (k : List Nat -> a), frL l k = k l
  | [], _ => rfl
  | x :: r, k => by
    show frN x (fun x => frL r fun r => k (x :: r)) = k (x :: r)
    rw [frN_eq, frL_eq r]
/-- those named by the newest ones that are not there yet -/
def growC (g : Addr -> Option Obj) (old new : List Addr) : List Addr := (new.flatMap fun a => match g a with
  | some o => (refsC o).filter fun b => !(old.contains b || new.contains b)
  | none => []).eraseDups
def walkC {a : Type} (g : Addr -> Option Obj) (k : List Addr -> a) : Nat -> List Addr -> List Addr -> a
  | 0, old, new => k (old ++ new)
  | n + 1, old, new => frL (growC g old new) fun more => frL (old ++ new) fun old => walkC g k n old more
theorem walkC_one (g : Addr -> Option Obj) : forall (n : Nat) (old new : List Addr), exists as : List Addr, forall (a : Type) (k : List Addr -> a), walkC g k n old new = k as
  | 0, old, new => ⟨old ++ new, fun _ _ => rfl⟩
  | n + 1, old, new => by
    obtain ⟨as, h⟩ := walkC_one g n (old ++ new) (growC g old new)
    refine ⟨as, fun a k => ?_⟩
    show frL (growC g old new) (fun more => frL (old ++ new) fun old => walkC g k n old more) = k as
    rw [frL_eq, frL_eq]
    exact h a k
abbrev AlC : Type := He.AlD × Bool
def lookC (fa : List He.Fa) (fn : List He.DefD) (ex : PySem.W.Frag -> Bool) (K : PySem.W.Frag) : AlC := (He.obsD fa fn K, ex K)
def obsC (n : Nat) (fa : List He.Fa) (fn : List He.DefD) (ex : PySem.W.Frag -> Bool) (g : Addr -> Option Obj) : AlC := walkC g (fun as => lookC fa fn ex (He.frG g as)) n [] [mainGlobals]
def SaysC (fa : List He.Fa) (fn : List He.DefD) (ex : PySem.W.Frag -> Bool) (K : PySem.W.Frag) : Prop := lookC fa fn ex K = (He.valD fn, true)
def hookC (n : Nat) (fa : List He.Fa) (fn : List He.DefD) (ex : PySem.W.Frag -> Bool) : PySem.W.Hook where
  α := AlC
  obs := fun s => obsC n fa fn ex s.heap.get?
  val := fun _ => (He.valD fn, true)
  says := fun _ h => exists K : PySem.W.Frag, K.In h ∧ SaysC fa fn ex K
  of := fun _ s e => by
    obtain ⟨as, h⟩ := walkC_one s.heap.get? n [] [mainGlobals]
    exact ⟨He.frG s.heap.get? as, He.frG_in, (h _ _).symm.trans e⟩
  keeps := fun _ _ _ ⟨K, hK, c⟩ k => ⟨K, PySem.W.Frag.In.keeps hK k, c⟩
theorem obsC_eq {n : Nat} {fa : List He.Fa} {fn : List He.DefD} {ex : PySem.W.Frag -> Bool} {g : Addr -> Option Obj} {s : Shared} (h : forall a, g a = s.heap.get? a) : obsC n fa fn ex g = (hookC n fa fn ex).obs s := by
  have e : g = s.heap.get? := funext h
  rw [e] <;> rfl
abbrev hk : PySem.W.Hook := hookC 4 fa fn exB
def ob (s : PySem.W.SharedT) : AlC := obsC 4 fa fn exB (HandSHeadRun.getT s)
theorem ob_eq (s : PySem.W.SharedT) : ob s = hk.obs s.abs := obsC_eq (HandSHeadRun.getT_eq s)
theorem run (w : World) : HandSHeadRun.RunEq R (PySem.W.view R.prog [90]) hk ob 20000 loose w := by
  intro os
  kernel_rfl
theorem top_of {K : PySem.W.Frag} {h : Heap} {mg : Str → Option Value} (X : K.In h) (G : h.Ns mainGlobals mg) (c0 : SaysC fa fn exB K) : Tops K mg (He.ga K "Rooms") (He.ga K "Web") (He.ga K "Nets") (He.ga K "Heights") := by
  have c : He.SaysD fa fn K := congrArg (fun z : AlC => z.1) c0
  have cm : exB K = true := congrArg (fun z : AlC => z.2) c0
  refine {
    b := {
      b_isinstance := He.free_ok X G (c.fact 109 (f := .free "isinstance") rfl)
      b_int := He.free_ok X G (c.fact 110 (f := .free "int") rfl)
      b_bool := He.free_ok X G (c.fact 111 (f := .free "bool") rfl)
      b_list := He.free_ok X G (c.fact 112 (f := .free "list") rfl)
      b_tuple := He.free_ok X G (c.fact 113 (f := .free "tuple") rfl)
      b_len := He.free_ok X G (c.fact 114 (f := .free "len") rfl)
      b_range := He.free_ok X G (c.fact 115 (f := .free "range") rfl)
      b_min := He.free_ok X G (c.fact 116 (f := .free "min") rfl)
      b_max := He.free_ok X G (c.fact 117 (f := .free "max") rfl)
      b_sorted := He.free_ok X G (c.fact 118 (f := .free "sorted") rfl)
      b_dict := He.free_ok X G (c.fact 119 (f := .free "dict") rfl)
      b_enumerate := He.free_ok X G (c.fact 120 (f := .free "enumerate") rfl)
      b_zip := He.free_ok X G (c.fact 121 (f := .free "zip") rfl)
      b_abs := He.free_ok X G (c.fact 122 (f := .free "abs") rfl)
      b_sum := He.free_ok X G (c.fact 123 (f := .free "sum") rfl)
      b_set := He.free_ok X G (c.fact 124 (f := .free "set") rfl)
      MOST_ABOVE := He.int_ok X G (c.fact 125 (f := .int "MOST_ABOVE" 1000000000000) rfl)
      BELOW := He.int_ok X G (c.fact 126 (f := .int "BELOW" 55440) rfl)
      MOST_PLACES := He.int_ok X G (c.fact 127 (f := .int "MOST_PLACES" 40) rfl)
      NOUGHT := ⟨_, He.glo_ok X G (c.fact 128 (f := .glo "NOUGHT") rfl), fun H => He.tupB_ok cm H⟩ }
    cRooms := { mg := He.glo_ok X G (c.fact 65 (f := .glo "Rooms") rfl), cl := He.cls_ok (c.fact 66 (f := .cls "Rooms") rfl), made := (c.def_ 65 (d := d_Rooms_init__) rfl).elim fun fd F => ⟨_, fd, He.mkr_ok (c.fact 67 (f := .mkr "Rooms") rfl), F⟩ }
    nRooms := { size := He.noat_ok (c.fact 68 (f := .noat "Rooms" "size") rfl), weights := He.noat_ok (c.fact 69 (f := .noat "Rooms" "weights") rfl), brought := He.noat_ok (c.fact 70 (f := .noat "Rooms" "brought") rfl), close := He.noat_ok (c.fact 71 (f := .noat "Rooms" "close") rfl) }
    cWeb := { mg := He.glo_ok X G (c.fact 72 (f := .glo "Web") rfl), cl := He.cls_ok (c.fact 73 (f := .cls "Web") rfl), made := (c.def_ 73 (d := d_Web_init__) rfl).elim fun fd F => ⟨_, fd, He.mkr_ok (c.fact 74 (f := .mkr "Web") rfl), F⟩ }
    nWeb := { many := He.noat_ok (c.fact 75 (f := .noat "Web" "many") rfl), weights := He.noat_ok (c.fact 76 (f := .noat "Web" "weights") rfl), ties := He.noat_ok (c.fact 77 (f := .noat "Web" "ties") rfl) }
    cNets := { mg := He.glo_ok X G (c.fact 78 (f := .glo "Nets") rfl), cl := He.cls_ok (c.fact 79 (f := .cls "Nets") rfl), made := (c.def_ 75 (d := d_Nets_init__) rfl).elim fun fd F => ⟨_, fd, He.mkr_ok (c.fact 80 (f := .mkr "Nets") rfl), F⟩ }
    nNets := { rooms := He.noat_ok (c.fact 81 (f := .noat "Nets" "rooms") rfl), ends := He.noat_ok (c.fact 82 (f := .noat "Nets" "ends") rfl), rows := He.noat_ok (c.fact 83 (f := .noat "Nets" "rows") rfl) }
    cHeights := { mg := He.glo_ok X G (c.fact 84 (f := .glo "Heights") rfl), cl := He.cls_ok (c.fact 85 (f := .cls "Heights") rfl), made := (c.def_ 82 (d := d_Heights_init__) rfl).elim fun fd F => ⟨_, fd, He.mkr_ok (c.fact 86 (f := .mkr "Heights") rfl), F⟩ }
    nHeights := { rooms := He.noat_ok (c.fact 87 (f := .noat "Heights" "rooms") rfl), ends := He.noat_ok (c.fact 88 (f := .noat "Heights" "ends") rfl), heights := He.noat_ok (c.fact 89 (f := .noat "Heights" "heights") rfl), too_much := He.noat_ok (c.fact 90 (f := .noat "Heights" "too_much") rfl) }
    is_whole := (c.def_ 0 (d := d_is_whole) rfl).elim fun fd F => ⟨_, fd, He.glo_ok X G (c.fact 0 (f := .glo "is_whole") rfl), F⟩
    is_row := (c.def_ 1 (d := d_is_row) rfl).elim fun fd F => ⟨_, fd, He.glo_ok X G (c.fact 1 (f := .glo "is_row") rfl), F⟩
    as_tuples := (c.def_ 2 (d := d_as_tuples) rfl).elim fun fd F => ⟨_, fd, He.glo_ok X G (c.fact 2 (f := .glo "as_tuples") rfl), F⟩
    divisor := (c.def_ 3 (d := d_divisor) rfl).elim fun fd F => ⟨_, fd, He.glo_ok X G (c.fact 3 (f := .glo "divisor") rfl), F⟩
    is_amount := (c.def_ 4 (d := d_is_amount) rfl).elim fun fd F => ⟨_, fd, He.glo_ok X G (c.fact 4 (f := .glo "is_amount") rfl), F⟩
    is_weight := (c.def_ 5 (d := d_is_weight) rfl).elim fun fd F => ⟨_, fd, He.glo_ok X G (c.fact 5 (f := .glo "is_weight") rfl), F⟩
    in_least_terms := (c.def_ 6 (d := d_in_least_terms) rfl).elim fun fd F => ⟨_, fd, He.glo_ok X G (c.fact 6 (f := .glo "in_least_terms") rfl), F⟩
    plus := (c.def_ 7 (d := d_plus) rfl).elim fun fd F => ⟨_, fd, He.glo_ok X G (c.fact 7 (f := .glo "plus") rfl), F⟩
    is_below := (c.def_ 8 (d := d_is_below) rfl).elim fun fd F => ⟨_, fd, He.glo_ok X G (c.fact 8 (f := .glo "is_below") rfl), F⟩
    total := (c.def_ 9 (d := d_total) rfl).elim fun fd F => ⟨_, fd, He.glo_ok X G (c.fact 9 (f := .glo "total") rfl), F⟩
    are_rising := (c.def_ 10 (d := d_are_rising) rfl).elim fun fd F => ⟨_, fd, He.glo_ok X G (c.fact 10 (f := .glo "are_rising") rfl), F⟩
    are_ends := (c.def_ 11 (d := d_are_ends) rfl).elim fun fd F => ⟨_, fd, He.glo_ok X G (c.fact 11 (f := .glo "are_ends") rfl), F⟩
    ask_ends := (c.def_ 12 (d := d_ask_ends) rfl).elim fun fd F => ⟨_, fd, He.glo_ok X G (c.fact 12 (f := .glo "ask_ends") rfl), F⟩
    is_flow_row := (c.def_ 13 (d := d_is_flow_row) rfl).elim fun fd F => ⟨_, fd, He.glo_ok X G (c.fact 13 (f := .glo "is_flow_row") rfl), F⟩
    are_flow_rows := (c.def_ 14 (d := d_are_flow_rows) rfl).elim fun fd F => ⟨_, fd, He.glo_ok X G (c.fact 14 (f := .glo "are_flow_rows") rfl), F⟩
    going_out := (c.def_ 15 (d := d_going_out) rfl).elim fun fd F => ⟨_, fd, He.glo_ok X G (c.fact 15 (f := .glo "going_out") rfl), F⟩
    coming_in := (c.def_ 16 (d := d_coming_in) rfl).elim fun fd F => ⟨_, fd, He.glo_ok X G (c.fact 16 (f := .glo "coming_in") rfl), F⟩
    is_balanced := (c.def_ 17 (d := d_is_balanced) rfl).elim fun fd F => ⟨_, fd, He.glo_ok X G (c.fact 17 (f := .glo "is_balanced") rfl), F⟩
    fits := (c.def_ 18 (d := d_fits) rfl).elim fun fd F => ⟨_, fd, He.glo_ok X G (c.fact 18 (f := .glo "fits") rfl), F⟩
    is_flow := (c.def_ 19 (d := d_is_flow) rfl).elim fun fd F => ⟨_, fd, He.glo_ok X G (c.fact 19 (f := .glo "is_flow") rfl), F⟩
    lowest := (c.def_ 20 (d := d_lowest) rfl).elim fun fd F => ⟨_, fd, He.glo_ok X G (c.fact 20 (f := .glo "lowest") rfl), F⟩
    rooms_of := (c.def_ 21 (d := d_rooms_of) rfl).elim fun fd F => ⟨_, fd, He.glo_ok X G (c.fact 21 (f := .glo "rooms_of") rfl), F⟩
    reached := (c.def_ 22 (d := d_reached) rfl).elim fun fd F => ⟨_, fd, He.glo_ok X G (c.fact 22 (f := .glo "reached") rfl), F⟩
    leading := (c.def_ 23 (d := d_leading) rfl).elim fun fd F => ⟨_, fd, He.glo_ok X G (c.fact 23 (f := .glo "leading") rfl), F⟩
    steps_to := (c.def_ 24 (d := d_steps_to) rfl).elim fun fd F => ⟨_, fd, He.glo_ok X G (c.fact 24 (f := .glo "steps_to") rfl), F⟩
    way_with := (c.def_ 25 (d := d_way_with) rfl).elim fun fd F => ⟨_, fd, He.glo_ok X G (c.fact 25 (f := .glo "way_with") rfl), F⟩
    filled := (c.def_ 26 (d := d_filled) rfl).elim fun fd F => ⟨_, fd, He.glo_ok X G (c.fact 26 (f := .glo "filled") rfl), F⟩
    are_places := (c.def_ 27 (d := d_are_places) rfl).elim fun fd F => ⟨_, fd, He.glo_ok X G (c.fact 27 (f := .glo "are_places") rfl), F⟩
    is_tie := (c.def_ 28 (d := d_is_tie) rfl).elim fun fd F => ⟨_, fd, He.glo_ok X G (c.fact 28 (f := .glo "is_tie") rfl), F⟩
    wrong_tie := (c.def_ 29 (d := d_wrong_tie) rfl).elim fun fd F => ⟨_, fd, He.glo_ok X G (c.fact 29 (f := .glo "wrong_tie") rfl), F⟩
    weights_in := (c.def_ 30 (d := d_weights_in) rfl).elim fun fd F => ⟨_, fd, He.glo_ok X G (c.fact 30 (f := .glo "weights_in") rfl), F⟩
    put_weights := (c.def_ 31 (d := d_put_weights) rfl).elim fun fd F => ⟨_, fd, He.glo_ok X G (c.fact 31 (f := .glo "put_weights") rfl), F⟩
    are_loose_rows := (c.def_ 32 (d := d_are_loose_rows) rfl).elim fun fd F => ⟨_, fd, He.glo_ok X G (c.fact 32 (f := .glo "are_loose_rows") rfl), F⟩
    is_loose := (c.def_ 33 (d := d_is_loose) rfl).elim fun fd F => ⟨_, fd, He.glo_ok X G (c.fact 33 (f := .glo "is_loose") rfl), F⟩
    led_flow := (c.def_ 34 (d := d_led_flow) rfl).elim fun fd F => ⟨_, fd, He.glo_ok X G (c.fact 34 (f := .glo "led_flow") rfl), F⟩
    first_bound := (c.def_ 35 (d := d_first_bound) rfl).elim fun fd F => ⟨_, fd, He.glo_ok X G (c.fact 35 (f := .glo "first_bound") rfl), F⟩
    halved_flow := (c.def_ 36 (d := d_halved_flow) rfl).elim fun fd F => ⟨_, fd, He.glo_ok X G (c.fact 36 (f := .glo "halved_flow") rfl), F⟩
    shortest_flow := (c.def_ 37 (d := d_shortest_flow) rfl).elim fun fd F => ⟨_, fd, He.glo_ok X G (c.fact 37 (f := .glo "shortest_flow") rfl), F⟩
    rooms_left := (c.def_ 38 (d := d_rooms_left) rfl).elim fun fd F => ⟨_, fd, He.glo_ok X G (c.fact 38 (f := .glo "rooms_left") rfl), F⟩
    near_side := (c.def_ 39 (d := d_near_side) rfl).elim fun fd F => ⟨_, fd, He.glo_ok X G (c.fact 39 (f := .glo "near_side") rfl), F⟩
    far_side := (c.def_ 40 (d := d_far_side) rfl).elim fun fd F => ⟨_, fd, He.glo_ok X G (c.fact 40 (f := .glo "far_side") rfl), F⟩
    pushed_flow := (c.def_ 41 (d := d_pushed_flow) rfl).elim fun fd F => ⟨_, fd, He.glo_ok X G (c.fact 41 (f := .glo "pushed_flow") rfl), F⟩
    law_cell := (c.def_ 42 (d := d_law_cell) rfl).elim fun fd F => ⟨_, fd, He.glo_ok X G (c.fact 42 (f := .glo "_law_cell") rfl), F⟩
    law_draws := (c.def_ 43 (d := d_law_draws) rfl).elim fun fd F => ⟨_, fd, He.glo_ok X G (c.fact 43 (f := .glo "_law_draws") rfl), F⟩
    law_next := (c.def_ 44 (d := d_law_next) rfl).elim fun fd F => ⟨_, fd, He.glo_ok X G (c.fact 44 (f := .glo "_law_next") rfl), F⟩
    law_of := (c.def_ 45 (d := d_law_of) rfl).elim fun fd F => ⟨_, fd, He.glo_ok X G (c.fact 45 (f := .glo "_law_of") rfl), F⟩
    law_weight := (c.def_ 46 (d := d_law_weight) rfl).elim fun fd F => ⟨_, fd, He.glo_ok X G (c.fact 46 (f := .glo "_law_weight") rfl), F⟩
    law_order := (c.def_ 47 (d := d_law_order) rfl).elim fun fd F => ⟨_, fd, He.glo_ok X G (c.fact 47 (f := .glo "_law_order") rfl), F⟩
    law_pairs := (c.def_ 48 (d := d_law_pairs) rfl).elim fun fd F => ⟨_, fd, He.glo_ok X G (c.fact 48 (f := .glo "_law_pairs") rfl), F⟩
    law_web := (c.def_ 49 (d := d_law_web) rfl).elim fun fd F => ⟨_, fd, He.glo_ok X G (c.fact 49 (f := .glo "_law_web") rfl), F⟩
    law_rows := (c.def_ 50 (d := d_law_rows) rfl).elim fun fd F => ⟨_, fd, He.glo_ok X G (c.fact 50 (f := .glo "_law_rows") rfl), F⟩
    law_parts := (c.def_ 51 (d := d_law_parts) rfl).elim fun fd F => ⟨_, fd, He.glo_ok X G (c.fact 51 (f := .glo "_law_parts") rfl), F⟩
    law_amount := (c.def_ 52 (d := d_law_amount) rfl).elim fun fd F => ⟨_, fd, He.glo_ok X G (c.fact 52 (f := .glo "_law_amount") rfl), F⟩
    law_ends := (c.def_ 53 (d := d_law_ends) rfl).elim fun fd F => ⟨_, fd, He.glo_ok X G (c.fact 53 (f := .glo "_law_ends") rfl), F⟩
    law_side_parts := (c.def_ 54 (d := d_law_side_parts) rfl).elim fun fd F => ⟨_, fd, He.glo_ok X G (c.fact 54 (f := .glo "_law_side_parts") rfl), F⟩
    law_sides_between := (c.def_ 55 (d := d_law_sides_between) rfl).elim fun fd F => ⟨_, fd, He.glo_ok X G (c.fact 55 (f := .glo "_law_sides_between") rfl), F⟩
    law_least_sides := (c.def_ 56 (d := d_law_least_sides) rfl).elim fun fd F => ⟨_, fd, He.glo_ok X G (c.fact 56 (f := .glo "_law_least_sides") rfl), F⟩
    law_measure := (c.def_ 57 (d := d_law_measure) rfl).elim fun fd F => ⟨_, fd, He.glo_ok X G (c.fact 57 (f := .glo "_law_measure") rfl), F⟩
    law_are_rows := (c.def_ 58 (d := d_law_are_rows) rfl).elim fun fd F => ⟨_, fd, He.glo_ok X G (c.fact 58 (f := .glo "_law_are_rows") rfl), F⟩
    law_worth := (c.def_ 59 (d := d_law_worth) rfl).elim fun fd F => ⟨_, fd, He.glo_ok X G (c.fact 59 (f := .glo "_law_worth") rfl), F⟩
    law_new_weight := (c.def_ 60 (d := d_law_new_weight) rfl).elim fun fd F => ⟨_, fd, He.glo_ok X G (c.fact 60 (f := .glo "_law_new_weight") rfl), F⟩
    law_changed := (c.def_ 61 (d := d_law_changed) rfl).elim fun fd F => ⟨_, fd, He.glo_ok X G (c.fact 61 (f := .glo "_law_changed") rfl), F⟩
    law_turned := (c.def_ 62 (d := d_law_turned) rfl).elim fun fd F => ⟨_, fd, He.glo_ok X G (c.fact 62 (f := .glo "_law_turned") rfl), F⟩
    law_is_greatest := (c.def_ 63 (d := d_law_is_greatest) rfl).elim fun fd F => ⟨_, fd, He.glo_ok X G (c.fact 63 (f := .glo "_law_is_greatest") rfl), F⟩
    law := (c.def_ 64 (d := d_law) rfl).elim fun fd F => ⟨_, fd, He.glo_ok X G (c.fact 64 (f := .glo "law") rfl), F⟩
    Rooms_meet := (c.def_ 66 (d := d_Rooms_meet) rfl).elim fun fd F => ⟨_, fd, He.meth_ok (c.fact 91 (f := .meth "Rooms" "meet") rfl), F⟩
    Rooms_parts := (c.def_ 67 (d := d_Rooms_parts) rfl).elim fun fd F => ⟨_, fd, He.meth_ok (c.fact 92 (f := .meth "Rooms" "parts") rfl), F⟩
    Rooms_spare := (c.def_ 68 (d := d_Rooms_spare) rfl).elim fun fd F => ⟨_, fd, He.meth_ok (c.fact 93 (f := .meth "Rooms" "spare") rfl), F⟩
    Rooms_put := (c.def_ 69 (d := d_Rooms_put) rfl).elim fun fd F => ⟨_, fd, He.meth_ok (c.fact 94 (f := .meth "Rooms" "put") rfl), F⟩
    Rooms_carry := (c.def_ 70 (d := d_Rooms_carry) rfl).elim fun fd F => ⟨_, fd, He.meth_ok (c.fact 95 (f := .meth "Rooms" "carry") rfl), F⟩
    Rooms_least_room := (c.def_ 71 (d := d_Rooms_least_room) rfl).elim fun fd F => ⟨_, fd, He.meth_ok (c.fact 96 (f := .meth "Rooms" "least_room") rfl), F⟩
    Rooms_flow := (c.def_ 72 (d := d_Rooms_flow) rfl).elim fun fd F => ⟨_, fd, He.meth_ok (c.fact 97 (f := .meth "Rooms" "flow") rfl), F⟩
    Web_tie := (c.def_ 74 (d := d_Web_tie) rfl).elim fun fd F => ⟨_, fd, He.meth_ok (c.fact 98 (f := .meth "Web" "tie") rfl), F⟩
    Nets_surplus := (c.def_ 76 (d := d_Nets_surplus) rfl).elim fun fd F => ⟨_, fd, He.meth_ok (c.fact 99 (f := .meth "Nets" "surplus") rfl), F⟩
    Nets_cut_down := (c.def_ 77 (d := d_Nets_cut_down) rfl).elim fun fd F => ⟨_, fd, He.meth_ok (c.fact 100 (f := .meth "Nets" "cut_down") rfl), F⟩
    Nets_row_at := (c.def_ 78 (d := d_Nets_row_at) rfl).elim fun fd F => ⟨_, fd, He.meth_ok (c.fact 101 (f := .meth "Nets" "row_at") rfl), F⟩
    Nets_walk := (c.def_ 79 (d := d_Nets_walk) rfl).elim fun fd F => ⟨_, fd, He.meth_ok (c.fact 102 (f := .meth "Nets" "walk") rfl), F⟩
    Nets_settle := (c.def_ 80 (d := d_Nets_settle) rfl).elim fun fd F => ⟨_, fd, He.meth_ok (c.fact 103 (f := .meth "Nets" "settle") rfl), F⟩
    Nets_balance := (c.def_ 81 (d := d_Nets_balance) rfl).elim fun fd F => ⟨_, fd, He.meth_ok (c.fact 104 (f := .meth "Nets" "balance") rfl), F⟩
    Heights_push := (c.def_ 83 (d := d_Heights_push) rfl).elim fun fd F => ⟨_, fd, He.meth_ok (c.fact 105 (f := .meth "Heights" "push") rfl), F⟩
    Heights_lift := (c.def_ 84 (d := d_Heights_lift) rfl).elim fun fd F => ⟨_, fd, He.meth_ok (c.fact 106 (f := .meth "Heights" "lift") rfl), F⟩
    Heights_clear := (c.def_ 85 (d := d_Heights_clear) rfl).elim fun fd F => ⟨_, fd, He.meth_ok (c.fact 107 (f := .meth "Heights" "clear") rfl), F⟩
    Heights_waiting := (c.def_ 86 (d := d_Heights_waiting) rfl).elim fun fd F => ⟨_, fd, He.meth_ok (c.fact 108 (f := .meth "Heights" "waiting") rfl), F⟩ }
end Cut

namespace Cut
open PySem PySem.Spec PyProof.Rows L2 Evl
/-! ### the readings that are always there: the weakest wishes, straight on the syntax -/
section
variable (X : Cx)
def EW (e : Expr) : TE := fun σ H Q => ∀ (pins : List (Addr × Obj)) (s : Shared), Inv X pins σ H s → wpAny (model X.prog X.w) X.A (eval e X.env) (EP X pins σ Q) X.xe s
def TW (e : Expr) : TT := fun σ H Q => ∀ (pins : List (Addr × Obj)) (s : Shared), Inv X pins σ H s → wpAny (model X.prog X.w) X.A (isTrue e X.env (eval e X.env)) (TP X pins σ Q) X.xe s
def WW (e : Expr) : TT := fun σ H Q => ∀ (whole : Sem Value) (pins : List (Addr × Obj)) (s : Shared), Inv X pins σ H s → wpAny (model X.prog X.w) X.A (isTrue e X.env whole) (TP X pins σ Q) X.xe s
def AW (es : List Expr) : TA := fun σ H Q => ∀ (pos : Pos) (pins : List (Addr × Obj)) (s : Shared), Inv X pins σ H s → wpAny (model X.prog X.w) X.A (spliced (backTo pos (starEach es X.env))) (AP X pins σ Q) X.xe s
def SW (st : Stmt) : TS := fun D σ H => ∀ (pins : List (Addr × Obj)) (s : Shared), Inv X pins σ H s → wpAny (model X.prog X.w) X.A (exec st X.env) (SP X pins D) X.xe s
def BW (st : List Stmt) : TS := fun D σ H => ∀ (pins : List (Addr × Obj)) (s : Shared), Inv X pins σ H s → wpAny (model X.prog X.w) X.A (execs st X.env) (SP X pins D) X.xe s
def GW (g : Expr) : TG := fun v σ H Q => ∀ (pins : List (Addr × Obj)) (s : Shared) (u : Value), Inv X pins σ H s → RelV v u → wpAny (model X.prog X.w) X.A (assign g X.env u) (fun _ s' => ∃ σ' H', Inv X pins σ' H' s' ∧ Q σ' H') X.xe s
def GWs (gs : List Expr) : TGs := fun vs σ H Q => ∀ (pins : List (Addr × Obj)) (s : Shared) (us : List Value), Inv X pins σ H s → Vals vs us → wpAny (model X.prog X.w) X.A (assignInOrder ((assignEach gs X.env).map (·.2)) us) (fun _ s' => ∃ σ' H', Inv X pins σ' H' s' ∧ Q σ' H') X.xe s
def IW (tg iter : Expr) : TI := fun σ H R => ∀ (pins : List (Addr × Obj)) (s : Shared), Inv X pins σ H s → wpAny (model X.prog X.w) X.A (eval iter X.env) (fun v s1 => wpAny (model X.prog X.w) X.A (pyIter v) (PIE X pins σ tg R) X.xe s1) X.xe s
end
section
variable {X : Cx} {e : Expr} {es : List Expr} {st : Stmt} {sts : List Stmt} {g iter : Expr} {gs : List Expr} {σ : L2.St} {H : Hp} {D : Ends}
theorem pe_w : PE X e (EW X e) := ⟨fun pins s σ H Q I h => h pins s I⟩
theorem pt_w : PT X e (TW X e) := ⟨fun pins s σ H Q I h => h pins s I⟩
theorem pw_w : PW X e (WW X e) := ⟨fun wh pins s σ H Q I h => h wh pins s I⟩
theorem pa_w : PA X es (AW X es) := ⟨fun pos pins s σ H Q I h => h pos pins s I⟩
theorem ps_w : PS X st (SW X st) := ⟨fun pins s σ H D I h => h pins s I⟩
theorem pss_w : PSs X sts (BW X sts) := ⟨fun pins s σ H D I h => h pins s I⟩
theorem pg_w : PG X g (GW X g) := ⟨fun pins s σ H v u Q I r h => h pins s u I r⟩
theorem pgs_w : PGs X gs (GWs X gs) := ⟨fun pins s σ H vs us Q I r h => h pins s us I r⟩
theorem pi_w : PI X g iter (IW X g iter) := ⟨fun pins s σ H R I h => h pins s I⟩
theorem ew_of {t : TE} (r : PE X e t) {Q : VK} (h : t σ H Q) : EW X e σ H Q := fun pins s I => r.run pins s σ H Q I h
theorem tw_of {t : TT} (r : PT X e t) {Q : Bool → Hp → Prop} (h : t σ H Q) : TW X e σ H Q := fun pins s I => r.run pins s σ H Q I h
theorem ww_of {t : TT} (r : PW X e t) {Q : Bool → Hp → Prop} (h : t σ H Q) : WW X e σ H Q := fun wh pins s I => r.run wh pins s σ H Q I h
theorem aw_of {t : TA} (r : PA X es t) {Q : List V → Hp → Prop} (h : t σ H Q) : AW X es σ H Q := fun pos pins s I => r.run pos pins s σ H Q I h
theorem sw_of {t : TS} (r : PS X st t) (h : t D σ H) : SW X st D σ H := fun pins s I => r.run pins s σ H D I h
theorem bw_of {t : TS} (r : PSs X sts t) (h : t D σ H) : BW X sts D σ H := fun pins s I => r.run pins s σ H D I h
theorem gw_of {t : TG} (r : PG X g t) {v : V} {Q : L2.St → Hp → Prop} (h : t v σ H Q) : GW X g v σ H Q := fun pins s u I rv => r.run pins s σ H v u Q I rv h
theorem gws_of {t : TGs} (r : PGs X gs t) {vs : List V} {Q : L2.St → Hp → Prop} (h : t vs σ H Q) : GWs X gs vs σ H Q := fun pins s us I rv => r.run pins s σ H vs us Q I rv h
theorem iw_of {t : TI} (r : PI X g iter t) {R : It → Hp → Prop} (h : t σ H R) : IW X g iter σ H R := fun pins s I => r.run pins s σ H R I h
theorem EW.mono {Q Q' : VK} (h : EW X e σ H Q) (k : ∀ v H', Q v H' → Q' v H') : EW X e σ H Q' := fun pins s I => thn (h pins s I) fun u s' ⟨v, H', I', r, q⟩ => ⟨v, H', I', r, k v H' q⟩
theorem TW.mono {Q Q' : Bool → Hp → Prop} (h : TW X e σ H Q) (k : ∀ b H', Q b H' → Q' b H') : TW X e σ H Q' := fun pins s I => thn (h pins s I) fun u s' ⟨H', I', q⟩ => ⟨H', I', k u H' q⟩
/-- what is always so, of an expression that lets the heap only grow -/
abbrev EV (X : Cx) (e : Expr) (σ : L2.St) (H : Hp) (v : V) : Prop := Evl.Ev (EW X e) σ H v
abbrev EVL (X : Cx) (e : Expr) (σ : L2.St) (H : Hp) (xs : List V) : Prop := Evl.EvL (EW X e) σ H xs
abbrev EVU (X : Cx) (e : Expr) (σ : L2.St) (H : Hp) (xs : List V) : Prop := Evl.EvU (EW X e) σ H xs
abbrev TV (X : Cx) (e : Expr) (σ : L2.St) (H : Hp) (b : Bool) : Prop := Evl.EvT (TW X e) σ H b
abbrev WV (X : Cx) (e : Expr) (σ : L2.St) (H : Hp) (b : Bool) : Prop := Evl.EvT (WW X e) σ H b
abbrev AV (X : Cx) (es : List Expr) (σ : L2.St) (H : Hp) (vs : List V) : Prop := Evl.EvA (AW X es) σ H vs
theorem ev_of {t : TE} {v : V} (r : PE X e t) (h : Evl.Ev t σ H v) : EV X e σ H v := fun H1 e1 Q q => ew_of r (h H1 e1 Q q)
theorem evl_of {t : TE} {xs : List V} (r : PE X e t) (h : Evl.EvL t σ H xs) : EVL X e σ H xs := fun H1 e1 Q q => ew_of r (h H1 e1 Q q)
theorem evu_of {t : TE} {xs : List V} (r : PE X e t) (h : Evl.EvU t σ H xs) : EVU X e σ H xs := fun H1 e1 Q q => ew_of r (h H1 e1 Q q)
theorem tv_of {t : TT} {b : Bool} (r : PT X e t) (h : Evl.EvT t σ H b) : TV X e σ H b := fun H1 e1 Q q => tw_of r (h H1 e1 Q q)
theorem wv_of {t : TT} {b : Bool} (r : PW X e t) (h : Evl.EvT t σ H b) : WV X e σ H b := fun H1 e1 Q q => ww_of r (h H1 e1 Q q)
theorem av_of {t : TA} {vs : List V} (r : PA X es t) (h : Evl.EvA t σ H vs) : AV X es σ H vs := fun H1 e1 Q q => aw_of r (h H1 e1 Q q)
/-- going on behind it -/
theorem EVgo {te : TE} {v : V} {Q : VK} (h : Evl.Ev te σ H v) (k : ∀ H1, Ex H H1 → Q v H1) : te σ H Q := h H (Ex.refl H) Q k
theorem ELgo {te : TE} {xs : List V} {Q : VK} (h : Evl.EvL te σ H xs) (k : ∀ p H1, H p = none → Ex H H1 → H1 p = some (.lst xs) → Q (.ref p) H1) : te σ H Q := h H (Ex.refl H) Q k
theorem EUgo {te : TE} {xs : List V} {Q : VK} (h : Evl.EvU te σ H xs) (k : ∀ p H1, H p = none → Ex H H1 → H1 p = some (.tup xs) → Q (.ref p) H1) : te σ H Q := h H (Ex.refl H) Q k
theorem TVgo {tt : TT} {b : Bool} {Q : Bool → Hp → Prop} (h : Evl.EvT tt σ H b) (k : ∀ H1, Ex H H1 → Q b H1) : tt σ H Q := h H (Ex.refl H) Q k
theorem AVgo {ta : TA} {vs : List V} {Q : List V → Hp → Prop} (h : Evl.EvA ta σ H vs) (k : ∀ H1, Ex H H1 → Q vs H1) : ta σ H Q := h H (Ex.refl H) Q k
end
/-! ### names, numbers -/
section
variable {X : Cx} {σ : L2.St} {H : Hp} {pos : Pos} {a b c : Expr}
theorem ev_name {x : Str} (i : Nat) {v : V} (hN : X.N[i]? = some x := by rfl) (hv : Vis X.env.scope x := by first | exact Or.inl rfl | exact Or.inr (Or.inl rfl) | exact Or.inr (Or.inr rfl)) (hs : σ[i]? = some (some v) := by rfl)
    (hd : (x == ("__debug__" : Str)) = false := by decide) (hcd : (x == ("__classdict__" : Str)) = false := by decide) : EV X (.Name x pos) σ H v := ev_of (pe_var hN hv hd hcd) (Evl.ev_var hs)
theorem ev_int {i j} : EV X (.Constant (.int i) j pos) σ H (.int i) := ev_of pe_int Evl.ev_c
theorem ev_bl {b j} : EV X (.Constant (.bool b) j pos) σ H (.bl b) := ev_of pe_bl Evl.ev_c
theorem ev_non {j} : EV X (.Constant .none j pos) σ H .non := ev_of pe_non Evl.ev_c
theorem ev_glob {x : Str} {v : V} {u : Value} (hm : X.mg x = some u) (r : RelV v u) (hg : Gl X x := by rfl) (hd : (x == ("__debug__" : Str)) = false := by decide) : EV X (.Name x pos) σ H v := ev_of (pe_glob hg hm r hd) Evl.ev_c
theorem ev_globI {x : Str} {i : Int} (hm : ∃ t, X.mg x = some (.int i t)) (hg : Gl X x := by rfl) (hd : (x == ("__debug__" : Str)) = false := by decide) : EV X (.Name x pos) σ H (.int i) := by
  obtain ⟨t, hm⟩ := hm
  exact ev_glob hm ⟨t, rfl⟩ hg hd
variable {i j : Int}
theorem ev_add (ha : EV X a σ H (.int i)) (hb : EV X b σ H (.int j)) : EV X (.BinOp a .Add b pos) σ H (.int (i + j)) := ev_of (pe_op op_add pe_w pe_w) (Evl.ev_op ha hb Evl.rv_I0)
theorem ev_sub (ha : EV X a σ H (.int i)) (hb : EV X b σ H (.int j)) : EV X (.BinOp a .Sub b pos) σ H (.int (i - j)) := ev_of (pe_op op_sub pe_w pe_w) (Evl.ev_op ha hb Evl.rv_I0)
theorem ev_mul (ha : EV X a σ H (.int i)) (hb : EV X b σ H (.int j)) (hc : CMul i j) : EV X (.BinOp a .Mult b pos) σ H (.int (i * j)) := ev_of (pe_op op_mul pe_w pe_w) (Evl.ev_op ha hb (Evl.rv_I hc))
theorem ev_fdiv (ha : EV X a σ H (.int i)) (hb : EV X b σ H (.int j)) (hc : CDiv i j) : EV X (.BinOp a .FloorDiv b pos) σ H (.int (i / j)) := ev_of (pe_op op_fdiv pe_w pe_w) (Evl.ev_op ha hb (Evl.rv_I hc))
theorem ev_mod (ha : EV X a σ H (.int i)) (hb : EV X b σ H (.int j)) (hc : 0 < j) : EV X (.BinOp a .Mod b pos) σ H (.int (i % j)) := ev_of (pe_op op_mod pe_w pe_w) (Evl.ev_op ha hb (Evl.rv_I (C := fun _ j => 0 < j) hc))
theorem ev_pow (ha : EV X a σ H (.int i)) (hb : EV X b σ H (.int j)) (hc : CPow i j) : EV X (.BinOp a .Pow b pos) σ H (.int (i ^ j.toNat)) := ev_of (pe_op op_pow pe_w pe_w) (Evl.ev_op ha hb (Evl.rv_I hc))
theorem ev_shl (ha : EV X a σ H (.int i)) (hb : EV X b σ H (.int j)) (hc : CPow i j) : EV X (.BinOp a .LShift b pos) σ H (.int (i * 2 ^ j.toNat)) := ev_of (pe_op op_shl pe_w pe_w) (Evl.ev_op ha hb (Evl.rv_I hc))
theorem ev_shr (ha : EV X a σ H (.int i)) (hb : EV X b σ H (.int j)) (hc : 0 ≤ j) : EV X (.BinOp a .RShift b pos) σ H (.int (i / 2 ^ j.toNat)) := ev_of (pe_op op_shr pe_w pe_w) (Evl.ev_op ha hb (Evl.rv_I (C := fun _ j => 0 ≤ j) hc))
theorem ev_neg (ha : EV X a σ H (.int i)) : EV X (.UnaryOp .USub a pos) σ H (.int (-i)) := ev_of (pe_un un_neg pe_w) (Evl.ev_un ha Evl.ru_neg)
theorem ev_lt (ha : EV X a σ H (.int i)) (hb : EV X b σ H (.int j)) : EV X (.Compare a [.Lt] [b] pos) σ H (.bl (decide (i < j))) := ev_of (pe_cmpR op_lt pe_w pe_w (nomark _)) (Evl.ev_op ha hb Evl.rv_I0)
theorem ev_le (ha : EV X a σ H (.int i)) (hb : EV X b σ H (.int j)) : EV X (.Compare a [.LtE] [b] pos) σ H (.bl (decide (i ≤ j))) := ev_of (pe_cmpR op_le pe_w pe_w (nomark _)) (Evl.ev_op ha hb Evl.rv_I0)
theorem ev_gt (ha : EV X a σ H (.int i)) (hb : EV X b σ H (.int j)) : EV X (.Compare a [.Gt] [b] pos) σ H (.bl (decide (j < i))) := ev_of (pe_cmpR op_gt pe_w pe_w (nomark _)) (Evl.ev_op ha hb Evl.rv_I0)
theorem ev_ge (ha : EV X a σ H (.int i)) (hb : EV X b σ H (.int j)) : EV X (.Compare a [.GtE] [b] pos) σ H (.bl (decide (j ≤ i))) := ev_of (pe_cmpR op_ge pe_w pe_w (nomark _)) (Evl.ev_op ha hb Evl.rv_I0)
variable {x y : V}
theorem ev_eq (ha : EV X a σ H x) (hb : EV X b σ H y) (hs : scal x y = true := by rfl) : EV X (.Compare a [.Eq] [b] pos) σ H (.bl (decide (x = y))) := ev_of (pe_cmpR op_eq pe_w pe_w (nomark _)) (Evl.ev_op ha hb (Evl.rv_eq hs))
theorem ev_ne (ha : EV X a σ H x) (hb : EV X b σ H y) (hs : scal x y = true := by rfl) : EV X (.Compare a [.NotEq] [b] pos) σ H (.bl (!decide (x = y))) := ev_of (pe_cmpR op_ne pe_w pe_w (nomark _)) (Evl.ev_op ha hb (Evl.rv_ne hs))
theorem ev_isN {pn jn} (ha : EV X a σ H x) : EV X (.Compare a [.Is] [.Constant .none jn pn] pos) σ H (.bl (decide (x = .non))) := ev_of (pe_cmp (pc_isN pe_w)) fun H1 e1 Q q => ha H1 e1 _ q
theorem ev_notN {pn jn} (ha : EV X a σ H x) : EV X (.Compare a [.IsNot] [.Constant .none jn pn] pos) σ H (.bl (!decide (x = .non))) := ev_of (pe_cmp (pc_notN pe_w)) fun H1 e1 Q q => ha H1 e1 _ q
/-- in a list, a tuple of flat things -/
theorem ev_inS {p : Addr} {xs : List V} (ha : EV X a σ H x) (hb : EV X b σ H (.ref p)) (h : SqL X.K H p xs ∨ SqT X.K H p xs) (hx : flatV x = true) (hf : xs.all flatV = true) (hm : behindInMarks .In b = false := by rfl) : EV X (.Compare a [.In] [b] pos) σ H (.bl (inV x xs)) :=
  ev_of (pe_cmpR op_in_seq pe_w pe_w hm) (Evl.ev_op ha hb (h.elim (fun h => Evl.rv_isL h hx hf) fun h => Evl.rv_isT h hx hf))
theorem ev_niS {p : Addr} {xs : List V} (ha : EV X a σ H x) (hb : EV X b σ H (.ref p)) (h : SqL X.K H p xs ∨ SqT X.K H p xs) (hx : flatV x = true) (hf : xs.all flatV = true) (hm : behindInMarks .NotIn b = false := by rfl) : EV X (.Compare a [.NotIn] [b] pos) σ H (.bl (!inV x xs)) :=
  ev_of (pe_cmpR op_notIn_seq pe_w pe_w hm) (Evl.ev_op ha hb (h.elim (fun h => Evl.rv_niL h hx hf) fun h => Evl.rv_niT h hx hf))
/-! ### truth -/
theorem ev_not {k : Bool} (ha : EV X a σ H (.bl k)) : EV X (.UnaryOp .Not a pos) σ H (.bl (!k)) := ev_of (pe_not pe_w) (Evl.ev_notV ha)
theorem ev_one {op} (ha : EV X a σ H x) : EV X (.BoolOp op [a] pos) σ H x := ev_of (pe_one pe_w) ha
theorem ev_and {k l : Bool} {rest : List Expr} (ha : EV X a σ H (.bl k)) (hb : k = true → EV X (.BoolOp .And (b :: rest) pos) σ H (.bl l)) : EV X (.BoolOp .And (a :: b :: rest) pos) σ H (.bl (k && l)) := ev_of (pe_and pe_w pe_w) (Evl.ev_andV ha hb)
theorem ev_or {k l : Bool} {rest : List Expr} (ha : EV X a σ H (.bl k)) (hb : k = false → EV X (.BoolOp .Or (b :: rest) pos) σ H (.bl l)) : EV X (.BoolOp .Or (a :: b :: rest) pos) σ H (.bl (k || l)) := ev_of (pe_or pe_w pe_w) (Evl.ev_orV ha hb)
theorem tv_not {k : Bool} (ha : TV X a σ H k) : TV X (.UnaryOp .Not a pos) σ H (!k) := tv_of (pt_not pt_w) (Evl.et_not ha)
theorem tv_cmp {op : CmpOp} {ops : List CmpOp} {bs : List Expr} {k : Bool} (h : TV X (.Compare a (op :: ops) bs pos) σ H k) : TV X (.Compare a (op :: ops) bs pos) σ H k := h
theorem tv_lt (ha : EV X a σ H (.int i)) (hb : EV X b σ H (.int j)) : TV X (.Compare a [.Lt] [b] pos) σ H (decide (i < j)) := tv_of (pt_cmpR op_lt pe_w pe_w (nomark _)) (Evl.et_test (Evl.ev_op ha hb Evl.rv_I0))
theorem tv_le (ha : EV X a σ H (.int i)) (hb : EV X b σ H (.int j)) : TV X (.Compare a [.LtE] [b] pos) σ H (decide (i ≤ j)) := tv_of (pt_cmpR op_le pe_w pe_w (nomark _)) (Evl.et_test (Evl.ev_op ha hb Evl.rv_I0))
theorem tv_gt (ha : EV X a σ H (.int i)) (hb : EV X b σ H (.int j)) : TV X (.Compare a [.Gt] [b] pos) σ H (decide (j < i)) := tv_of (pt_cmpR op_gt pe_w pe_w (nomark _)) (Evl.et_test (Evl.ev_op ha hb Evl.rv_I0))
theorem tv_ge (ha : EV X a σ H (.int i)) (hb : EV X b σ H (.int j)) : TV X (.Compare a [.GtE] [b] pos) σ H (decide (j ≤ i)) := tv_of (pt_cmpR op_ge pe_w pe_w (nomark _)) (Evl.et_test (Evl.ev_op ha hb Evl.rv_I0))
theorem tv_eq (ha : EV X a σ H x) (hb : EV X b σ H y) (hs : scal x y = true := by rfl) : TV X (.Compare a [.Eq] [b] pos) σ H (decide (x = y)) := tv_of (pt_cmpR op_eq pe_w pe_w (nomark _)) (Evl.et_test (Evl.ev_op ha hb (Evl.rv_eq hs)))
theorem tv_ne (ha : EV X a σ H x) (hb : EV X b σ H y) (hs : scal x y = true := by rfl) : TV X (.Compare a [.NotEq] [b] pos) σ H (!decide (x = y)) := tv_of (pt_cmpR op_ne pe_w pe_w (nomark _)) (Evl.et_test (Evl.ev_op ha hb (Evl.rv_ne hs)))
theorem tv_isN {pn jn} (ha : EV X a σ H x) : TV X (.Compare a [.Is] [.Constant .none jn pn] pos) σ H (decide (x = .non)) := tv_of (pt_cmp (pc_isN pe_w)) (Evl.et_B fun H1 e1 Q q => ha H1 e1 _ q)
theorem tv_notN {pn jn} (ha : EV X a σ H x) : TV X (.Compare a [.IsNot] [.Constant .none jn pn] pos) σ H (!decide (x = .non)) := tv_of (pt_cmp (pc_notN pe_w)) (Evl.et_B fun H1 e1 Q q => ha H1 e1 _ q)
theorem tv_inS {p : Addr} {xs : List V} (ha : EV X a σ H x) (hb : EV X b σ H (.ref p)) (h : SqL X.K H p xs ∨ SqT X.K H p xs) (hx : flatV x = true) (hf : xs.all flatV = true) (hm : behindInMarks .In b = false := by rfl) : TV X (.Compare a [.In] [b] pos) σ H (inV x xs) :=
  tv_of (pt_cmpR op_in_seq pe_w pe_w hm) (Evl.et_test (Evl.ev_op ha hb (h.elim (fun h => Evl.rv_isL h hx hf) fun h => Evl.rv_isT h hx hf)))
theorem tv_niS {p : Addr} {xs : List V} (ha : EV X a σ H x) (hb : EV X b σ H (.ref p)) (h : SqL X.K H p xs ∨ SqT X.K H p xs) (hx : flatV x = true) (hf : xs.all flatV = true) (hm : behindInMarks .NotIn b = false := by rfl) : TV X (.Compare a [.NotIn] [b] pos) σ H (!inV x xs) :=
  tv_of (pt_cmpR op_notIn_seq pe_w pe_w hm) (Evl.et_test (Evl.ev_op ha hb (h.elim (fun h => Evl.rv_niL h hx hf) fun h => Evl.rv_niT h hx hf)))
/-- a value as a test -/
theorem tv_val {k : Bool} (h : EV X a σ H (.bl k)) (he : ∀ whole, isTrue a X.env whole = (do let v ← whole; standAt a.pos; holding [v] (truthy v)) := by intro _; rfl) : TV X a σ H k := tv_of (pt_val pe_w he) (Evl.et_B h)
theorem wv_one_and {k : Bool} (ha : TV X a σ H k) : WV X (.BoolOp .And [a] pos) σ H k := wv_of (pw_and1 pt_w) ha
theorem wv_one_or {k : Bool} (ha : TV X a σ H k) : WV X (.BoolOp .Or [a] pos) σ H k := wv_of (pw_or1 pt_w) ha
theorem wv_and {k l : Bool} {rest : List Expr} (ha : TV X a σ H k) (hb : k = true → WV X (.BoolOp .And (b :: rest) pos) σ H l) : WV X (.BoolOp .And (a :: b :: rest) pos) σ H (k && l) := wv_of (pw_and pt_w pw_w) (Evl.et_and ha hb)
theorem wv_or {k l : Bool} {rest : List Expr} (ha : TV X a σ H k) (hb : k = false → WV X (.BoolOp .Or (b :: rest) pos) σ H l) : WV X (.BoolOp .Or (a :: b :: rest) pos) σ H (k || l) := wv_of (pw_or pt_w pw_w) (Evl.et_or ha hb)
theorem tv_bool {op : BoolOp} {as : List Expr} {k : Bool} (h : WV X (.BoolOp op as pos) σ H k) : TV X (.BoolOp op as pos) σ H k := tv_of pw_w.pt h
theorem tv_is {k l : Bool} (h : TV X a σ H k) (e : k = l) : TV X a σ H l := Evl.et_is h e
theorem ev_is {v w : V} (h : EV X a σ H v) (e : v = w) : EV X a σ H w := Evl.ev_is h e
/-! ### chains -/
theorem ev_chain {op op' : CmpOp} {r r' : R2} {z : V} {k l : Bool} (ho : OpR X (compareOp op) r) (ho' : OpR X (compareOp op') r') (ha : EV X a σ H x) (hb : EV X b σ H y) (hc : EV X c σ H z) (h1 : Evl.RV r x y H (.bl k)) (h2 : k = true → Evl.RV r' y z H (.bl l))
    (hm : lastMarks [op, op'] [b, c] = false := by with_unfolding_all rfl) : EV X (.Compare a [op, op'] [b, c] pos) σ H (.bl (k && l)) := ev_of (pe_chain ho ho' pe_w pe_w pe_w hm) fun H1 e1 Q q =>
  ha H1 e1 _ fun H2 e2 => hb H2 (e1.trans e2) _ fun H3 e3 => h1 H3 ((e1.trans e2).trans e3) _ fun H4 e4 => ⟨k, rfl, by
    have e14 := ((e2.trans e3).trans e4)
    cases k with
    | true => exact hc H4 (e1.trans e14) _ fun H5 e5 => h2 rfl H5 ((e1.trans e14).trans e5) _ fun H6 e6 => q H6 ((e14.trans e5).trans e6)
    | false => exact q H4 e14⟩
theorem ev_le_le {i j l : Int} (ha : EV X a σ H (.int i)) (hb : EV X b σ H (.int j)) (hc : EV X c σ H (.int l)) (hm : lastMarks [.LtE, .LtE] [b, c] = false := by with_unfolding_all rfl) : EV X (.Compare a [.LtE, .LtE] [b, c] pos) σ H (.bl (decide (i ≤ j) && decide (j ≤ l))) := ev_chain op_le op_le ha hb hc Evl.rv_I0 (fun _ => Evl.rv_I0) hm
theorem tv_chain {op op' : CmpOp} {r r' : R2} {z : V} {k l : Bool} (ho : OpR X (compareOp op) r) (ho' : OpR X (compareOp op') r') (ha : EV X a σ H x) (hb : EV X b σ H y) (hc : EV X c σ H z) (h1 : Evl.RV r x y H (.bl k)) (h2 : k = true → Evl.RV r' y z H (.bl l))
    (hm : lastMarks [op, op'] [b, c] = false := by with_unfolding_all rfl) : TV X (.Compare a [op, op'] [b, c] pos) σ H (k && l) := tv_of (pt_chain ho ho' pe_w pe_w pe_w hm) fun H1 e1 Q q =>
  ha H1 e1 _ fun H2 e2 => hb H2 (e1.trans e2) _ fun H3 e3 => h1 H3 ((e1.trans e2).trans e3) _ fun H4 e4 => ⟨k, rfl, by
    have e14 := ((e2.trans e3).trans e4)
    cases k with
    | true => exact hc H4 (e1.trans e14) _ fun H5 e5 => h2 rfl H5 ((e1.trans e14).trans e5) _ fun H6 e6 => ⟨l, rfl, q H6 ((e14.trans e5).trans e6)⟩
    | false => exact ⟨false, rfl, q H4 e14⟩⟩
theorem tv_lt_le {i j l : Int} (ha : EV X a σ H (.int i)) (hb : EV X b σ H (.int j)) (hc : EV X c σ H (.int l)) (hm : lastMarks [.Lt, .LtE] [b, c] = false := by with_unfolding_all rfl) : TV X (.Compare a [.Lt, .LtE] [b, c] pos) σ H (decide (i < j) && decide (j ≤ l)) := tv_chain op_lt op_le ha hb hc Evl.rv_I0 (fun _ => Evl.rv_I0) hm
/-! ### arguments -/
theorem av_nil : AV X [] σ H [] := av_of pa_nil Evl.ea_nil
theorem av_cons {es : List Expr} {vs : List V} (ha : EV X a σ H x) (hr : AV X es σ H vs) (hs : starEach (a :: es) X.env = (false, eval a X.env) :: starEach es X.env := by rfl) : AV X (a :: es) σ H (x :: vs) := av_of (pa_cons pe_w pa_w hs) (Evl.ea_cons ha hr)
theorem aw_nil {Q : List V → Hp → Prop} (q : Q [] H) : AW X [] σ H Q := aw_of pa_nil q
theorem aw_cons {es : List Expr} {Q : List V → Hp → Prop} (q : EW X a σ H fun x H1 => AW X es σ H1 fun xs H2 => Q (x :: xs) H2) (hs : starEach (a :: es) X.env = (false, eval a X.env) :: starEach es X.env := by rfl) : AW X (a :: es) σ H Q := aw_of (pa_cons pe_w pa_w hs) q
/-! ### fields, items -/
/-- the field f of the instance at p -/
def Fl (K : PySem.W.Frag) (H : Hp) (p : Addr) (f : Str) (v : V) : Prop := ∃ C dx fs, H p = some (.ins C dx fs) ∧ Cls K C ∧ NoAttr K C f ∧ fs.lookup f = some v
theorem Fl.mono {K : PySem.W.Frag} {H H' : Hp} {p : Addr} {f : Str} {v : V} (h : Fl K H p f v) (e : Ex H H') : Fl K H' p f v := by
  obtain ⟨C, dx, fs, h1, h2⟩ := h
  exact ⟨C, dx, fs, e _ _ h1, h2⟩
theorem ev_fld {p : Addr} {f : Str} {v : V} (ha : EV X a σ H (.ref p)) (hf : Fl X.K H p f v) (hb : attributeBase a f X.env (eval a X.env) = eval a X.env := by rfl) : EV X (.Attribute a f pos) σ H v := ev_of (pe_fld pe_w hb) fun H1 e1 Q q =>
  ha H1 e1 _ fun H2 e2 => by
    obtain ⟨C, dx, fs, h1, h2, h3, h4⟩ := hf
    exact ⟨p, C, dx, fs, v, rfl, (e1.trans e2) _ _ h1, h2, h3, h4, q H2 e2⟩
theorem ev_ixL {p : Addr} {xs : List V} {v : V} (ha : EV X a σ H (.ref p)) (hb : EV X b σ H (.int i)) (h : SqL X.K H p xs) (hv : atI xs i = some v) (hs : PlainIx b := by exact fun _ _ => rfl) : EV X (.Subscript a b pos) σ H v := ev_of (pe_ix ix_list pe_w pe_w hs) (Evl.ev_op ha hb (Evl.rv_ixL h hv))
theorem ev_ixT {p : Addr} {xs : List V} {v : V} (ha : EV X a σ H (.ref p)) (hb : EV X b σ H (.int i)) (h : SqT X.K H p xs) (hv : atI xs i = some v) (hs : PlainIx b := by exact fun _ _ => rfl) : EV X (.Subscript a b pos) σ H v := ev_of (pe_ix ix_tup pe_w pe_w hs) (Evl.ev_op ha hb (Evl.rv_ixT h hv))
theorem ev_ixS {p : Addr} {xs : List V} {v : V} (ha : EV X a σ H (.ref p)) (hb : EV X b σ H (.int i)) (h : SqL X.K H p xs ∨ SqT X.K H p xs) (hv : atI xs i = some v) (hs : PlainIx b := by exact fun _ _ => rfl) : EV X (.Subscript a b pos) σ H v := by
  rcases h with h | h
  · exact ev_ixL ha hb h hv hs
  · exact ev_ixT ha hb h hv hs
/-! ### displays -/
theorem evu_tup {es : List Expr} {vs : List V} {k : Nat} (h : AV X es σ H vs) (hl : vs.length ≤ 100000 := by first | exact Nat.le_of_ble_eq_true rfl | decide | (simp; done) | omega) : EVU X (.Tuple es k pos) σ H vs := evu_of (pe_tup pa_w) (Evl.eu_tup h hl)
theorem evl_lst {es : List Expr} {vs : List V} (h : AV X es σ H vs) (hl : vs.length ≤ 100000 := by first | exact Nat.le_of_ble_eq_true rfl | decide | (simp; done) | omega) : EVL X (.List es pos) σ H vs := evl_of (pe_lst pa_w) (Evl.el_lst h hl)
/-! ### dicts -/
/-- what stands at a key that is a tuple of ints, or an int -/
theorem ev_get2 {d : Addr} {k : List Key} {kvs : List (List Key × V)} {e f : Expr} {apos : Pos} {z v : V} (hu : X.A.units + 1 < cLine) (ho : EV X a σ H (.ref d)) (he : EVU X e σ H (k.map kV)) (hf : EV X f σ H z) (hd : H d = some (.dT kvs)) (hv : (valV kvs k).getD z = v)
    (m : M2 X a "get" apos e f pos := by exact ⟨rfl, rfl, rfl, rfl⟩) : EV X (.Call (.Attribute a "get" apos) [e, f] [] pos) σ H v := ev_of (pe_dget2 hu pe_w pe_w pe_w m) fun H1 e1 Q q =>
  ho H1 e1 _ fun H2 e2 => ⟨d, rfl, .inr ⟨kvs, .inl ((e1.trans e2) _ _ hd)⟩, he H2 (e1.trans e2) _ fun b H3 _ e3 hb => hf H3 ((e1.trans e2).trans e3) _ fun H4 e4 =>
    ⟨valV kvs k, DGet.t (e4 _ _ (e3 _ _ ((e1.trans e2) _ _ hd))) (e4 _ _ hb), by rw [hv]; exact q H4 ((e2.trans e3).trans e4)⟩⟩
/-- the key a tuple that stands -/
theorem ev_get2R {d b : Addr} {k : List Key} {kvs : List (List Key × V)} {e f : Expr} {apos : Pos} {z v : V} (hu : X.A.units + 1 < cLine) (ho : EV X a σ H (.ref d)) (he : EV X e σ H (.ref b)) (hb : H b = some (.tup (k.map kV))) (hf : EV X f σ H z) (hd : H d = some (.dT kvs)) (hv : (valV kvs k).getD z = v)
    (m : M2 X a "get" apos e f pos := by exact ⟨rfl, rfl, rfl, rfl⟩) : EV X (.Call (.Attribute a "get" apos) [e, f] [] pos) σ H v := ev_of (pe_dget2 hu pe_w pe_w pe_w m) fun H1 e1 Q q =>
  ho H1 e1 _ fun H2 e2 => ⟨d, rfl, .inr ⟨kvs, .inl ((e1.trans e2) _ _ hd)⟩, he H2 (e1.trans e2) _ fun H3 e3 => hf H3 ((e1.trans e2).trans e3) _ fun H4 e4 =>
    ⟨valV kvs k, DGet.t (((e1.trans e2).trans (e3.trans e4)) _ _ hd) (((e1.trans e2).trans (e3.trans e4)) _ _ hb), by rw [hv]; exact q H4 ((e2.trans e3).trans e4)⟩⟩
theorem Rd.ex {H' : Hp} {d : Addr} {o : HO} (h : Rd H d o) (e : Ex H H') : Rd H' d o := Evl.ex_rd e h
theorem ev_itemT {d : Addr} {k : List Key} {kvs : List (List Key × V)} {v : V} (hu : X.A.units + 1 < cLine) (ho : EV X a σ H (.ref d)) (he : EVU X b σ H (k.map kV)) (hd : Rd H d (.dT kvs)) (hv : valV kvs k = some v)
    (hs : NoSl b := by exact fun _ _ => rfl) : EV X (.Subscript a b pos) σ H v := ev_of (pe_dget hu pe_w pe_w hs) fun H1 e1 Q q =>
  ho H1 e1 _ fun H2 e2 => he H2 (e1.trans e2) _ fun t H3 _ e3 hb => ⟨d, v, rfl, .inr ⟨kvs, k, t, Rd.ex hd ((e1.trans e2).trans e3), rfl, hb, hv.symm⟩, q H3 (e2.trans e3)⟩
theorem ev_itemTR {d t : Addr} {k : List Key} {kvs : List (List Key × V)} {v : V} (hu : X.A.units + 1 < cLine) (ho : EV X a σ H (.ref d)) (he : EV X b σ H (.ref t)) (hb : H t = some (.tup (k.map kV))) (hd : Rd H d (.dT kvs)) (hv : valV kvs k = some v)
    (hs : NoSl b := by exact fun _ _ => rfl) : EV X (.Subscript a b pos) σ H v := ev_of (pe_dget hu pe_w pe_w hs) fun H1 e1 Q q =>
  ho H1 e1 _ fun H2 e2 => he H2 (e1.trans e2) _ fun H3 e3 => ⟨d, v, rfl, .inr ⟨kvs, k, t, Rd.ex hd ((e1.trans e2).trans e3), rfl, ((e1.trans e2).trans e3) _ _ hb, hv.symm⟩, q H3 (e2.trans e3)⟩
theorem ev_itemK {d : Addr} {n : Int} {kvs : List (Key × V)} {v : V} (hu : X.A.units + 1 < cLine) (ho : EV X a σ H (.ref d)) (he : EV X b σ H (.int n)) (hd : Rd H d (.dK kvs)) (hv : valV kvs (Sum.inl n : Key) = some v)
    (hs : NoSl b := by exact fun _ _ => rfl) : EV X (.Subscript a b pos) σ H v := ev_of (pe_dget hu pe_w pe_w hs) fun H1 e1 Q q =>
  ho H1 e1 _ fun H2 e2 => he H2 (e1.trans e2) _ fun H3 e3 => ⟨d, v, rfl, .inl ⟨kvs, .inl n, Rd.ex hd ((e1.trans e2).trans e3), rfl, hv.symm⟩, q H3 (e2.trans e3)⟩
/-- x in d -/
theorem tv_inK {d : Addr} {n : Int} {kvs : List (Key × V)} (hu : X.A.units + 1 < cLine) (hi : EV X a σ H (.int n)) (ho : EV X b σ H (.ref d)) (hd : Rd H d (.dK kvs)) (hm : behindInMarks .In b = false := by rfl) : TV X (.Compare a [.In] [b] pos) σ H (valV kvs (Sum.inl n : Key)).isSome :=
  tv_of (pt_cmp (pc_din hu pe_w pe_w) hm) (Evl.et_B fun H1 e1 Q q => hi H1 e1 _ fun H2 e2 => ho H2 (e1.trans e2) _ fun H3 e3 => ⟨d, _, rfl, .inl ⟨kvs, .inl n, Rd.ex hd ((e1.trans e2).trans e3), rfl, rfl⟩, q H3 (e2.trans e3)⟩)
theorem ev_inK {d : Addr} {n : Int} {kvs : List (Key × V)} (hu : X.A.units + 1 < cLine) (hi : EV X a σ H (.int n)) (ho : EV X b σ H (.ref d)) (hd : Rd H d (.dK kvs)) (hm : behindInMarks .In b = false := by rfl) : EV X (.Compare a [.In] [b] pos) σ H (.bl (valV kvs (Sum.inl n : Key)).isSome) :=
  ev_of (pe_cmp (pc_din hu pe_w pe_w) hm) (fun H1 e1 Q q => hi H1 e1 _ fun H2 e2 => ho H2 (e1.trans e2) _ fun H3 e3 => ⟨d, _, rfl, .inl ⟨kvs, .inl n, Rd.ex hd ((e1.trans e2).trans e3), rfl, rfl⟩, q H3 (e2.trans e3)⟩)
theorem tv_niK {d : Addr} {n : Int} {kvs : List (Key × V)} (hu : X.A.units + 1 < cLine) (hi : EV X a σ H (.int n)) (ho : EV X b σ H (.ref d)) (hd : Rd H d (.dK kvs)) (hm : behindInMarks .NotIn b = false := by rfl) : TV X (.Compare a [.NotIn] [b] pos) σ H (!(valV kvs (Sum.inl n : Key)).isSome) :=
  tv_of (pt_cmp (pc_dnotin hu pe_w pe_w) hm) (Evl.et_B fun H1 e1 Q q => hi H1 e1 _ fun H2 e2 => ho H2 (e1.trans e2) _ fun H3 e3 => ⟨d, _, rfl, .inl ⟨kvs, .inl n, Rd.ex hd ((e1.trans e2).trans e3), rfl, rfl⟩, q H3 (e2.trans e3)⟩)
theorem tv_inT {d : Addr} {k : List Key} {kvs : List (List Key × V)} (hu : X.A.units + 1 < cLine) (hi : EVU X a σ H (k.map kV)) (ho : EV X b σ H (.ref d)) (hd : Rd H d (.dT kvs)) (hm : behindInMarks .In b = false := by rfl) : TV X (.Compare a [.In] [b] pos) σ H (valV kvs k).isSome :=
  tv_of (pt_cmp (pc_din hu pe_w pe_w) hm) (Evl.et_B fun H1 e1 Q q => hi H1 e1 _ fun t H2 _ e2 ht => ho H2 (e1.trans e2) _ fun H3 e3 => ⟨d, _, rfl, .inr ⟨kvs, k, t, Rd.ex hd ((e1.trans e2).trans e3), rfl, e3 _ _ ht, rfl⟩, q H3 (e2.trans e3)⟩)
end
/-! ### statements -/
section
variable {X : Cx} {σ : L2.St} {H : Hp} {pos : Pos} {a b c e : Expr} {D : Ends} {st : Stmt} {rest sts sts' : List Stmt}
theorem bw_nil (q : D.nx σ H) : BW X [] D σ H := bw_of pss_nil q
theorem bw_one (q : SW X st D σ H) : BW X [st] D σ H := bw_of (pss_one ps_w) q
theorem bw_cons (q : SW X st { D with nx := BW X rest D } σ H) : BW X (st :: rest) D σ H := bw_of (pss_cons ps_w pss_w) q
/-- a word between a statement and the rest -/
theorem bw_cut (Mid : L2.St → Hp → Prop) (q : SW X st { D with nx := Mid } σ H) (k : ∀ σ' H', Mid σ' H' → BW X rest D σ' H') : BW X (st :: rest) D σ H := bw_of (Evl.pss_cut ps_w pss_w) ⟨Mid, q, k⟩
theorem sw_pass (q : D.nx σ H) : SW X (.Pass pos) D σ H := sw_of ps_pass q
theorem sw_break (q : D.bk σ H) : SW X (.Break pos) D σ H := sw_of ps_break q
theorem sw_expr (q : EW X e σ H fun _ H1 => D.nx σ H1) (hs : swapsWith e none pos.line X.env = pure false := by rfl) : SW X (.Expr e pos) D σ H := sw_of (ps_expr pe_w hs) q
theorem sw_ret (q : EW X e σ H D.rt) : SW X (.Return (some e) pos) D σ H := sw_of (ps_ret pe_w) q
theorem sw_if (q : TW X c σ H fun b H1 => if b = true then BW X sts D σ H1 else BW X sts' D σ H1) : SW X (.If c sts sts' pos) D σ H := sw_of (ps_if pt_w pss_w pss_w) q
/-- .. the test known to let the heap but grow -/
theorem sw_ifV {k : Bool} (h : TV X c σ H k) (h1 : k = true → ∀ H1, Ex H H1 → BW X sts D σ H1) (h2 : k = false → ∀ H1, Ex H H1 → BW X sts' D σ H1) : SW X (.If c sts sts' pos) D σ H := sw_if (TVgo h fun H1 e1 => by
  cases k with
  | true => exact h1 rfl H1 e1
  | false => exact h2 rfl H1 e1)
theorem sw_set {x : Str} {pos' : Pos} (i : Nat) (q : EW X e σ H fun v H1 => D.nx (σ.set i (some v)) H1) (hN : X.N.Nodup := by assumption) (hi : X.N[i]? = some x := by rfl) (hx : Loc X.env.scope x := by first | exact Or.inl rfl | exact Or.inr rfl) (hs : swapsWith e (some (.Name x pos')) pos.line X.env = pure false := by rfl)
    (hf : X.fn x = true ∨ X.env.scope.names.lookup x = some .local := by first | exact .inl rfl | exact .inr rfl) : SW X (.Assign [.Name x pos'] e pos) D σ H := sw_of (ps_set hN hi hx pe_w hs hf) q
theorem sw_asg {tg : Expr} (q : EW X e σ H fun v H1 => GW X tg v σ H1 D.nx) (hs : swapsWithSole [tg] e pos.line X.env = pure false := by rfl) (hw : swappedStores [tg] e X.env = pure none := by rfl) (h1 : (assignEach [tg] X.env).map (·.2) = [assign tg X.env] := by rfl) :
    SW X (.Assign [tg] e pos) D σ H := sw_of (ps_asg pe_w pg_w hs hw h1) q
theorem gw_name {x : Str} {v : V} {Q : L2.St → Hp → Prop} (i : Nat) (q : Q (σ.set i (some v)) H) (hN : X.N.Nodup := by assumption) (hi : X.N[i]? = some x := by rfl) (hx : Loc X.env.scope x := by first | exact Or.inl rfl | exact Or.inr rfl) (hf : X.fn x = true ∨ X.env.scope.names.lookup x = some .local := by first | exact .inl rfl | exact .inr rfl) : GW X (.Name x pos) v σ H Q := gw_of (pg_name hN hi hx hf) q
theorem gws_nil {Q : L2.St → Hp → Prop} (q : Q σ H) : GWs X [] [] σ H Q := gws_of pgs_nil ⟨rfl, q⟩
theorem gws_cons {g : Expr} {gs : List Expr} {v : V} {vs : List V} {Q : L2.St → Hp → Prop} (q : GW X g v σ H fun σ' H' => GWs X gs vs σ' H' Q) (hs : (assignEach (g :: gs) X.env).map (·.2) = assign g X.env :: (assignEach gs X.env).map (·.2) := by rfl) : GWs X (g :: gs) (v :: vs) σ H Q := gws_of (pgs_cons pg_w pgs_w hs) ⟨v, vs, rfl, q⟩
theorem gw_tup {gs : List Expr} {k n : Nat} {p : Addr} {xs : List V} {Q : L2.St → Hp → Prop} (h : SqT X.K H p xs) (q : GWs X gs xs σ H Q) (hl : xs.length = n := by rfl) (hc : X.calm = true := by rfl) (hn : (assignEach gs X.env).length = n := by rfl) (hst : (assignEach gs X.env).findIdx? (·.1) = none := by rfl) : GW X (.Tuple gs k pos) (.ref p) σ H Q :=
  gw_of (pg_tup hc pgs_w hn hst) ⟨p, xs, rfl, h, hl, q⟩
theorem sw_par {i j : Nat} {x y : Str} {px py pt pt2 : Pos} {kt k2 : Nat} (q : AW X [a, b] σ H fun vs H1 => ∃ v w, vs = [v, w] ∧ D.nx ((σ.set i (some v)).set j (some w)) H1) (hi : X.N[i]? = some x := by rfl) (hj : X.N[j]? = some y := by rfl) (hij : i ≠ j := by decide) (hN : X.N.Nodup := by assumption) (hc : X.calm = true := by rfl)
    (hx : X.env.scope.names.lookup x = some .local := by rfl) (hy : X.env.scope.names.lookup y = some .local := by rfl) (hw : swappedStores [.Tuple [.Name x px, .Name y py] kt pt] (.Tuple [a, b] k2 pt2) X.env = pure (some [x, y]) := by rfl)
    (hs : swapsWithSole [.Tuple [.Name x px, .Name y py] kt pt] (.Tuple [a, b] k2 pt2) pos.line X.env = pure false := by rfl) : SW X (.Assign [.Tuple [.Name x px, .Name y py] kt pt] (.Tuple [a, b] k2 pt2) pos) D σ H := sw_of (ps_par hc hN hi hj hij hx hy pa_w hw hs) q
theorem sw_aug {x : Str} {pos' : Pos} {n m : Int} {f : Int → Int → Int} {op : Operator} (i : Nat) (hop : PIp X op (ipI f)) (hx0 : σ[i]? = some (some (.int n))) (q : EW X e σ H fun y H1 => y = .int m ∧ D.nx (σ.set i (some (.int (f n m)))) H1) (hN : X.N.Nodup := by assumption) (hi : X.N[i]? = some x := by rfl) (hx : Loc X.env.scope x := by first | exact Or.inl rfl | exact Or.inr rfl)
    (hf : X.fn x = true ∨ X.env.scope.names.lookup x = some .local := by first | exact .inl rfl | exact .inr rfl) : SW X (.AugAssign (.Name x pos') op e pos) D σ H := sw_of (ps_aug hN hi hx pe_w hop hf) ⟨_, hx0, EW.mono q fun y H1 h => ⟨n, m, rfl, h.1, h.2⟩⟩
theorem sw_augP {x : Str} {pos' : Pos} {n m : Int} (i : Nat) (hx0 : σ[i]? = some (some (.int n))) (q : EW X e σ H fun y H1 => y = .int m ∧ D.nx (σ.set i (some (.int (n + m)))) H1) (hN : X.N.Nodup := by assumption) (hi : X.N[i]? = some x := by rfl) (hx : Loc X.env.scope x := by first | exact Or.inl rfl | exact Or.inr rfl)
    (hf : X.fn x = true ∨ X.env.scope.names.lookup x = some .local := by first | exact .inl rfl | exact .inr rfl) : SW X (.AugAssign (.Name x pos') .Add e pos) D σ H := sw_aug i ip_add hx0 q hN hi hx hf
theorem sw_augM {x : Str} {pos' : Pos} {n m : Int} (i : Nat) (hx0 : σ[i]? = some (some (.int n))) (q : EW X e σ H fun y H1 => y = .int m ∧ D.nx (σ.set i (some (.int (n - m)))) H1) (hN : X.N.Nodup := by assumption) (hi : X.N[i]? = some x := by rfl) (hx : Loc X.env.scope x := by first | exact Or.inl rfl | exact Or.inr rfl)
    (hf : X.fn x = true ∨ X.env.scope.names.lookup x = some .local := by first | exact .inl rfl | exact .inr rfl) : SW X (.AugAssign (.Name x pos') .Sub e pos) D σ H := sw_aug i ip_sub hx0 q hN hi hx hf
/-- o.f = e -/
theorem sw_fld {f : Str} {tpos : Pos} (q : EW X e σ H fun v H1 => EW X a σ H1 fun x H2 => ∃ p C dx fs, x = .ref p ∧ H2 p = some (.ins C dx fs) ∧ Cls X.K C ∧ NoAttr X.K C f ∧ fs.length < 1000 ∧ D.nx σ (upd H2 p (.ins C dx (putF f v fs))))
    (hs : swapsWith e (some (.Attribute a f tpos)) pos.line X.env = pure false := by rfl) : SW X (.Assign [.Attribute a f tpos] e pos) D σ H := sw_of (ps_fld pe_w pe_w hs) q
/-- d[k] = e -/
theorem sw_dput {pos' : Pos} (hu : X.A.units + 1 < cLine) (q : EW X e σ H fun v H1 => EW X a σ H1 fun x H2 => EW X b σ H2 fun y H3 => ∃ d H4, x = .ref d ∧ DPut H3 d y v H4 ∧ D.nx σ H4)
    (hs : swapsWith e (some (.Subscript a b pos')) pos.line X.env = pure false := by rfl) : SW X (.Assign [.Subscript a b pos'] e pos) D σ H := sw_of (ps_dput hu pe_w pe_w pe_w hs) q
/-- xs[i] = e -/
theorem sw_setL {pos' : Pos} (q : EW X e σ H fun v H1 => EW X a σ H1 fun x H2 => EW X b σ H2 fun y H3 => ∃ p xs k j, x = .ref p ∧ y = .int k ∧ H3 p = some (.lst xs) ∧ ixN xs.length k = some j ∧ D.nx σ (upd H3 p (.lst (xs.set j v))))
    (hs : swapsWithSole [.Subscript a b pos'] e pos.line X.env = pure false := by rfl) (hw : swappedStores [.Subscript a b pos'] e X.env = pure none := by rfl) (h1 : (assignEach [.Subscript a b pos'] X.env).map (·.2) = [assign (.Subscript a b pos') X.env] := by rfl)
    (ha : ∀ v, assign (.Subscript a b pos') X.env v = (do
      let ov ← holding [v] (eval a X.env)
      let iv ← holding [v, ov] (eval b X.env)
      standAt pos'
      holding [v, ov, iv] (setItem ov iv v)
      release [v, ov, iv] []) := by intro _; rfl) : SW X (.Assign [.Subscript a b pos'] e pos) D σ H := sw_of (ps_asg pe_w (pg_sub pe_w pe_w set_list ha) hs hw h1) q
/-! ### loops -/
theorem sw_while (hp : PassesOwn (model X.prog X.w) X.A X.env X.xe) (Pv : L2.St → Hp → Prop) (mu : L2.St → Hp → Nat) (h0 : Pv σ H)
    (hs : ∀ σ H, Pv σ H → TW X c σ H fun b H1 => if b = true then BW X sts { D with nx := fun σ' H' => Pv σ' H' ∧ mu σ' H' < mu σ H, ct := fun σ' H' => Pv σ' H' ∧ mu σ' H' < mu σ H, bk := D.nx } σ H1 else D.nx σ H1) : SW X (.While c sts [] pos) D σ H :=
  sw_of (ps_while hp pt_w pss_w) (while_by Pv mu h0 hs fun σ H Q Q' k h => TW.mono h k)
/-- .. by a word with its measure inside -/
theorem sw_whileM (hp : PassesOwn (model X.prog X.w) X.A X.env X.xe) (W : Nat → L2.St → Hp → Prop) (m0 : Nat) (h0 : W m0 σ H)
    (hs : ∀ m σ H, W m σ H → TW X c σ H fun b H1 => if b = true then BW X sts { D with nx := fun σ' H' => ∃ m', m' < m ∧ W m' σ' H', ct := fun σ' H' => ∃ m', m' < m ∧ W m' σ' H', bk := D.nx } σ H1 else D.nx σ H1) : SW X (.While c sts [] pos) D σ H :=
  sw_of (ps_while hp pt_w pss_w) ⟨W, ⟨m0, h0⟩, fun m σ H w => TW.mono (hs m σ H w) fun b H1 h => by
    cases b with
    | true => exact ⟨_, fun _ _ n => n, h⟩
    | false => exact h⟩
theorem sw_for {tg iter : Expr} (hp : PassesOwn (model X.prog X.w) X.A X.env X.xe) (q : tFor (IW X tg iter) (GW X tg) (BW X sts) D σ H) (hc : X.calm = true := by rfl) (hs : ∀ x, foldedSetIterable iter X.env x = pure x := by intro _; rfl) : SW X (.For tg iter sts [] pos) D σ H := sw_of (ps_for hp hc pi_w pg_w pss_w hs) q
theorem sw_forL {tg iter : Expr} {p : Addr} {xs : List V} (hp : PassesOwn (model X.prog X.w) X.A X.env X.xe) (h : EV X iter σ H (.ref p)) (hx : SqL X.K H p xs) (Pv : Nat → L2.St → Hp → Prop) (h0 : ∀ H1, Ex H H1 → Pv 0 σ H1) (hl : ∀ i σ' H', i ≤ xs.length → Pv i σ' H' → SqL X.K H' p xs)
    (hs : ∀ i x σ' H', xs[i]? = some x → Pv i σ' H' → GW X tg x σ' H' fun σ2 H2 => BW X sts { D with nx := Pv (i + 1), ct := Pv (i + 1), bk := D.nx } σ2 H2) (hd : ∀ σ' H', Pv xs.length σ' H' → D.nx σ' H') (hc : X.calm = true := by rfl) (hf : ∀ x, foldedSetIterable iter X.env x = pure x := by intro _; rfl) :
    SW X (.For tg iter sts [] pos) D σ H := sw_of (ps_for hp hc (pi_list pe_w) pg_w pss_w hf) (Evl.s_forL h hx Pv h0 hl hs hd)
theorem sw_forT {tg iter : Expr} {p : Addr} {xs : List V} (hp : PassesOwn (model X.prog X.w) X.A X.env X.xe) (h : EV X iter σ H (.ref p)) (hx : SqT X.K H p xs) (Pv : Nat → L2.St → Hp → Prop) (h0 : ∀ H1, Ex H H1 → Pv 0 σ H1) (hl : ∀ i σ' H', i ≤ xs.length → Pv i σ' H' → SqT X.K H' p xs)
    (hs : ∀ i x σ' H', xs[i]? = some x → Pv i σ' H' → GW X tg x σ' H' fun σ2 H2 => BW X sts { D with nx := Pv (i + 1), ct := Pv (i + 1), bk := D.nx } σ2 H2) (hd : ∀ σ' H', Pv xs.length σ' H' → D.nx σ' H') (hc : X.calm = true := by rfl) (hf : ∀ x, foldedSetIterable iter X.env x = pure x := by intro _; rfl) :
    SW X (.For tg iter sts [] pos) D σ H := sw_of (ps_for hp hc (pi_tup pe_w) pg_w pss_w hf) (Evl.s_forT h hx Pv h0 hl hs hd)
theorem sw_forR1 {tg : Expr} {p pos' : Pos} {n : Nat} (hp : PassesOwn (model X.prog X.w) X.A X.env X.xe) (hm : X.mg "range" = none) (h : EV X a σ H (.int (n : Int))) (hn : n ≤ 100000) (Pv : Nat → L2.St → Hp → Prop) (h0 : ∀ H1, Ex H H1 → Pv 0 σ H1)
    (hs : ∀ (i : Nat) σ' H', i < n → Pv i σ' H' → GW X tg (.int (i : Int)) σ' H' fun σ2 H2 => BW X sts { D with nx := Pv (i + 1), ct := Pv (i + 1), bk := D.nx } σ2 H2) (hd : ∀ σ' H', Pv n σ' H' → D.nx σ' H') (hg : Gl X "range" := by rfl) (hc : X.calm = true := by rfl)
    (hst : starEach [a] X.env = [(false, eval a X.env)] := by rfl) (hf : ∀ x, foldedSetIterable (.Call (.Name "range" p) [a] [] pos') X.env x = pure x := by intro _; rfl) :
    SW X (.For tg (.Call (.Name "range" p) [a] [] pos') sts [] pos) D σ H := sw_of (ps_for hp hc (pi_range1 hg hm pa_w hst) pg_w pss_w hf) (AVgo (av_cons h av_nil hst) fun H1 e1 => ⟨n, rfl, by omega, by omega, for_range (lo := 0) (n := (n : Int).toNat) Pv (h0 H1 e1) (fun i σ' H' hi p => by
      have e0 : (0 : Int) + (i : Int) = (i : Int) := Int.zero_add _
      rw [e0]
      exact hs i σ' H' (by omega) p) (by rw [Int.toNat_natCast]; exact hd)⟩)
theorem sw_forR2 {tg : Expr} {p pos' : Pos} {lo n : Nat} (hp : PassesOwn (model X.prog X.w) X.A X.env X.xe) (hm : X.mg "range" = none) (ha : EV X a σ H (.int (lo : Int))) (hb : EV X b σ H (.int (n : Int))) (hn : lo ≤ 100000 ∧ n ≤ 100000) (Pv : Nat → L2.St → Hp → Prop) (h0 : ∀ H1, Ex H H1 → Pv 0 σ H1)
    (hs : ∀ (i : Nat) σ' H', lo + i < n → Pv i σ' H' → GW X tg (.int ((lo + i : Nat) : Int)) σ' H' fun σ2 H2 => BW X sts { D with nx := Pv (i + 1), ct := Pv (i + 1), bk := D.nx } σ2 H2) (hd : ∀ σ' H', Pv (n - lo) σ' H' → D.nx σ' H') (hg : Gl X "range" := by rfl) (hc : X.calm = true := by rfl)
    (hst : starEach [a, b] X.env = [(false, eval a X.env), (false, eval b X.env)] := by rfl) (hst2 : starEach [b] X.env = [(false, eval b X.env)] := by rfl) (hf : ∀ x, foldedSetIterable (.Call (.Name "range" p) [a, b] [] pos') X.env x = pure x := by intro _; rfl) :
    SW X (.For tg (.Call (.Name "range" p) [a, b] [] pos') sts [] pos) D σ H := sw_of (ps_for hp hc (pi_range2 hg hm pa_w hst hst2) pg_w pss_w hf) (AVgo (av_cons ha (av_cons hb av_nil hst2) (by rw [hst2]; exact hst)) fun H1 e1 => ⟨lo, n, rfl, ⟨by omega, by omega, by omega, by omega⟩, for_range (lo := (lo : Int)) (n := ((n : Int) - (lo : Int)).toNat) Pv (h0 H1 e1) (fun i σ' H' hi p => by
      have e0 : (lo : Int) + (i : Int) = ((lo + i : Nat) : Int) := by omega
      rw [e0]
      exact hs i σ' H' (by omega) p) (by
      have e0 : ((n : Int) - (lo : Int)).toNat = n - lo := by omega
      rw [e0]
      exact hd)⟩)
end
end Cut

namespace Cut
open PySem PySem.Spec PyProof.Rows L2 Evl
/-! ### calls of the program's own defs, by their promises -/
section
variable (P : Program) (w : World) (K : PySem.W.Frag) (mg : Str → Option Value) (base : Heap)
/-- the module's x keeps the promise sp -/
def Has (k : Nat) (x : Str) (ps : List Str) (sp : Sp) : Prop := ∃ (f : Addr) (fd : FuncData), mg x = some (.ref f) ∧ PySem.W.keepIn K (.ref f) = true ∧ Binds K fd ps [] ∧ FnOk P w K mg base CX0 k f fd ps sp
/-- the method m of the class at C keeps it -/
def HasM (C : Addr) (k : Nat) (m : Str) (ps : List Str) (sp : Sp) : Prop := ∃ (f : Addr) (fd : FuncData), Meth K C m f ∧ Binds K fd ps [] ∧ FnOk P w K mg base CX0 k f fd ps sp
/-- x is the class at C, its __init__ keeps it -/
def HasC (C : Addr) (k : Nat) (x : Str) (ps : List Str) (sp : Sp) : Prop := ∃ (f : Addr) (fd : FuncData), mg x = some (.ref C) ∧ Mk K C f ∧ Binds K fd ps [] ∧ FnOk P w K mg base CX0 k f fd ps sp
end
/-- binding without defaults -/
abbrev BindR (x qual : Str) (st : Stmt) (ps : List Str) : Prop := ∀ (kV doc pm : Value) (an : Option Addr) (cdv ct : Value) (us : List Value), us.length = ps.length → bindArgs (PySem.W.fnOf x qual (defArgs st) (defBody st) (defScope st) .none kV doc pm an cdv ct) ⟨us, []⟩ = pure (ps.zip us)
section
variable {P : Program} {w : World} {K : PySem.W.Frag} {mg : Str → Option Value} {base : Heap} {x q : Str} {st : Stmt} {N ps : List Str} {k : Nat} {sp : Sp} {C : Addr}
/-- the context in which a def's body runs -/
abbrev CxD (P : Program) (w : World) (K : PySem.W.Frag) (mg : Str → Option Value) (base : Heap) (N : List Str) (q : Str) (st : Stmt) (f : Addr) (cdv : Value) (A : Around) (outer : List Env) (s : Shared) (H : Hp) (E : XK) : Cx := (cxOf CX0 P w K mg base N q (defScope st) f cdv A outer s H E).nox
/-- what is to be shown of a def's body -/
def BodyOk (P : Program) (w : World) (K : PySem.W.Frag) (mg : Str → Option Value) (base : Heap) (N : List Str) (q : Str) (st : Stmt) (k : Nat) (sp : Sp) : Prop :=
  ∀ (f : Addr) (cdv : Value) (A : Around) (outer : List Env) (s : Shared) (H0 H : Hp) (vs : List V) (Q : VK) (E E0 : XK), Room k (CxD P w K mg base N q st f cdv A outer s H0 E0).A → sp vs H Q E →
    BW (CxD P w K mg base N q st f cdv A outer s H0 E0) (defBody st) { nx := fun _ H' => Q .non H', rt := Q } (start N vs) H
theorem fnok_of {f : Addr} {fd : FuncData} (F : FunD K x q (defArgs st) (defBody st) (defScope st) [] [] f fd) (S : FnScope N ps (defScope st)) (hl : ∀ vs H Q E, sp vs H Q E → vs.length = ps.length) (h : BodyOk P w K mg base N q st k sp) : FnOk P w K mg base CX0 (k + 1) f fd ps sp :=
  F.ok S hl fun cdv A outer s H vs Q E hr hsp => ⟨_, PSs.nox pss_w, h f cdv A outer s H H vs Q E E hr hsp⟩
theorem has_of (D : DefAt K mg x st) (S : FnScope N ps (defScope st)) (b : BindR x x st ps) (hl : ∀ vs H Q E, sp vs H Q E → vs.length = ps.length) (h : BodyOk P w K mg base N x st k sp) : Has P w K mg base (k + 1) x ps sp := by
  obtain ⟨f, fd, hm, F⟩ := D
  exact ⟨f, fd, hm, F.kp, F.bindsN b, fnok_of F S hl h⟩
theorem hasM_of (D : MetAt K C x q st) (S : FnScope N ps (defScope st)) (b : BindR x q st ps) (hl : ∀ vs H Q E, sp vs H Q E → vs.length = ps.length) (h : BodyOk P w K mg base N q st k sp) : HasM P w K mg base C (k + 1) x ps sp := by
  obtain ⟨f, fd, hm, F⟩ := D
  exact ⟨f, fd, hm, F.bindsN b, fnok_of F S hl h⟩
theorem hasC_of (D : OwnCls K mg x q st C) (S : FnScope N ps (defScope st)) (b : BindR "__init__" q st ps) (hl : ∀ vs H Q E, sp vs H Q E → vs.length = ps.length) (h : BodyOk P w K mg base N q st k sp) : HasC P w K mg base C (k + 1) x ps sp := by
  obtain ⟨f, fd, hm, F⟩ := D.made
  exact ⟨f, fd, D.mg, hm, F.bindsN b, fnok_of F S hl h⟩
theorem Has.mono {j : Nat} (h : Has P w K mg base k x ps sp) (e : k ≤ j) : Has P w K mg base j x ps sp := by
  obtain ⟨f, fd, h1, h2, h3, h4⟩ := h
  exact ⟨f, fd, h1, h2, h3, h4.mono e⟩
theorem HasM.mono {j : Nat} (h : HasM P w K mg base C k x ps sp) (e : k ≤ j) : HasM P w K mg base C j x ps sp := by
  obtain ⟨f, fd, h1, h3, h4⟩ := h
  exact ⟨f, fd, h1, h3, h4.mono e⟩
end
section
variable {X : Cx} {σ : L2.St} {H : Hp} {pos p : Pos} {o e : Expr} {es : List Expr} {k j : Nat} {x m : Str} {ps : List Str} {sp : Sp} {C : Addr} {Q : VK} {v : V} {vs : List V}
theorem ew_call (h : Has X.prog X.w X.K X.mg X.base k x ps sp) (hr : Room j X.A) (q : AW X (e :: es) σ H fun vs H1 => sp vs H1 Q E0) (hk : k ≤ j := by decide) (hg : Gl X x := by rfl) (hdb : (x == ("__debug__" : Str)) = false := by decide) (he : starEach (e :: es) X.env = (false, eval e X.env) :: starEach es X.env := by rfl)
    (hpl : (backTo pos (starEach es X.env)).any (·.1) = false := by rfl) : EW X (.Call (.Name x p) (e :: es) [] pos) σ H Q := by
  obtain ⟨f, fd, h1, h2, h3, h4⟩ := h
  refine ew_of (pe_call h4 (hr.mono hk) hg h1 h2 h3 .nil pass0 pa_w hdb he hpl) ?_
  refine fun ps pins s I => thn (q ps pins s I) fun us s' ⟨vs, H1, I1, r, q1⟩ => ⟨vs, H1, I1, r, by
    show sp (vs ++ []) H1 Q E0
    rw [List.append_nil]
    exact q1⟩
theorem ew_meth {apos : Pos} (h : HasM X.prog X.w X.K X.mg X.base C k m ps sp) (c : Cls X.K C) (hr : Room j X.A) (q : EW X o σ H fun y H1 => ∃ a dx fs, y = .ref a ∧ H1 a = some (.ins C dx fs) ∧ fs.lookup m = none ∧ AW X (e :: es) σ H1 fun vs H2 => sp (y :: vs) H2 Q E0) {pl : Sem Bool} (hk : k ≤ j := by decide)
    (hst : starEach (e :: es) X.env = (false, eval e X.env) :: starEach es X.env := by rfl) (hpl : (backTo pos (starEach es X.env)).any (·.1) = false := by rfl)
    (ht : eval (.Call (.Attribute o m apos) (e :: es) [] pos) X.env = (do
      let ov ← eval o X.env
      standAt apos.atName
      let (f, first) ← holding [ov] (getMethod ov m pl)
      callWith pos f first (backTo pos (starEach (e :: es) X.env)) (backToKw pos (keywordEach [] X.env))) := by rfl) : EW X (.Call (.Attribute o m apos) (e :: es) [] pos) σ H Q := by
  obtain ⟨f, fd, h1, h3, h4⟩ := h
  refine ew_of (pe_meth pe_w c h1 h4 (hr.mono hk) h3 .nil pass0 pa_w hst hpl ht) ?_
  refine EW.mono q fun y H1 ⟨a, dx, fs, e1, e2, e3, q1⟩ => ⟨a, dx, fs, e1, e2, e3, fun ps pins s I => thn (q1 ps pins s I) fun us s' ⟨vs, H1, I1, r, q1⟩ => ⟨vs, H1, I1, r, by
    show sp (y :: (vs ++ [])) H1 Q E0
    rw [List.append_nil]
    exact q1⟩⟩
theorem ew_meth0 {apos : Pos} (h : HasM X.prog X.w X.K X.mg X.base C k m ps sp) (c : Cls X.K C) (hr : Room j X.A) (q : EW X o σ H fun y H1 => ∃ a dx fs, y = .ref a ∧ H1 a = some (.ins C dx fs) ∧ fs.lookup m = none ∧ sp [y] H1 Q E0) {pl : Sem Bool} (hk : k ≤ j := by decide)
    (ht : eval (.Call (.Attribute o m apos) [] [] pos) X.env = (do
      let ov ← eval o X.env
      standAt apos.atName
      let (f, first) ← holding [ov] (getMethod ov m pl)
      callWith pos f first (backTo pos (starEach [] X.env)) (backToKw pos (keywordEach [] X.env))) := by rfl) : EW X (.Call (.Attribute o m apos) [] [] pos) σ H Q := by
  obtain ⟨f, fd, h1, h3, h4⟩ := h
  refine ew_of (pe_meth0 pe_w c h1 h4 (hr.mono hk) h3 .nil pass0 ht) ?_
  exact EW.mono q fun y H1 ⟨a, dx, fs, e1, e2, e3, q1⟩ => ⟨a, dx, fs, e1, e2, e3, q1⟩
theorem ew_make (h : HasC X.prog X.w X.K X.mg X.base C k x ps sp) (hr : Room j X.A) (q : AW X (e :: es) σ H fun vs H1 => ∀ y dx, H1 y = none → H1 dx = none → dx ≠ y → sp (.ref y :: vs) (upd (upd H1 dx (.own y)) y (.ins C dx [])) (fun v H2 => v = .non ∧ Q (.ref y) H2) E0) (hk : k + 1 ≤ j := by decide) (hg : Gl X x := by rfl)
    (hdb : (x == ("__debug__" : Str)) = false := by decide) (he : starEach (e :: es) X.env = (false, eval e X.env) :: starEach es X.env := by rfl) (hpl : (backTo pos (starEach es X.env)).any (·.1) = false := by rfl) : EW X (.Call (.Name x p) (e :: es) [] pos) σ H Q := by
  obtain ⟨f, fd, h1, h2, h3, h4⟩ := h
  refine ew_of (pe_make h2 h4 (hr.mono hk) hg h1 h3 .nil pass0 pa_w hdb he hpl) ?_
  refine fun ps pins s I => thn (q ps pins s I) fun us s' ⟨vs, H1, I1, r, q1⟩ => ⟨vs, H1, I1, r, fun y dx h1 h2 h3 => by rw [List.append_nil]; exact q1 y dx h1 h2 h3⟩
/-- a promise that only lets the heap grow: a value, a new list, a new tuple -/
def spV (pre : List V → Hp → V → Prop) : Sp := fun vs H Q _ => ∃ v, pre vs H v ∧ ∀ H1, Ex H H1 → Q v H1
/-- the call as an expression whose value is known -/
theorem ev_call {pre : List V → Hp → V → Prop} (h : Has X.prog X.w X.K X.mg X.base k x ps (spV pre)) (hr : Room j X.A) (ha : AV X (e :: es) σ H vs) (hp : ∀ H1, Ex H H1 → pre vs H1 v) (hk : k ≤ j := by decide) (hg : Gl X x := by rfl) (hdb : (x == ("__debug__" : Str)) = false := by decide)
    (he : starEach (e :: es) X.env = (false, eval e X.env) :: starEach es X.env := by rfl) (hpl : (backTo pos (starEach es X.env)).any (·.1) = false := by rfl) : EV X (.Call (.Name x p) (e :: es) [] pos) σ H v := fun H1 e1 Q q =>
  ew_call h hr (ha H1 e1 _ fun H2 e2 => ⟨v, hp H2 (e1.trans e2), fun H3 e3 => q H3 (e2.trans e3)⟩) hk hg hdb he hpl
theorem ev_meth {apos : Pos} {pre : List V → Hp → V → Prop} {a dx : Addr} {fs : List (Str × V)} (h : HasM X.prog X.w X.K X.mg X.base C k m ps (spV pre)) (c : Cls X.K C) (hr : Room j X.A) (ho : EV X o σ H (.ref a)) (hi : H a = some (.ins C dx fs)) (hf : fs.lookup m = none) (ha : AV X (e :: es) σ H vs)
    (hp : ∀ H1, Ex H H1 → pre (.ref a :: vs) H1 v) {pl : Sem Bool} (hk : k ≤ j := by decide) (hst : starEach (e :: es) X.env = (false, eval e X.env) :: starEach es X.env := by rfl) (hpl : (backTo pos (starEach es X.env)).any (·.1) = false := by rfl)
    (ht : eval (.Call (.Attribute o m apos) (e :: es) [] pos) X.env = (do
      let ov ← eval o X.env
      standAt apos.atName
      let (f, first) ← holding [ov] (getMethod ov m pl)
      callWith pos f first (backTo pos (starEach (e :: es) X.env)) (backToKw pos (keywordEach [] X.env))) := by rfl) : EV X (.Call (.Attribute o m apos) (e :: es) [] pos) σ H v := fun H1 e1 Q q =>
  ew_meth h c hr (ho H1 e1 _ fun H2 e2 => ⟨a, dx, fs, rfl, (e1.trans e2) _ _ hi, hf, ha H2 (e1.trans e2) _ fun H3 e3 => ⟨v, hp H3 ((e1.trans e2).trans e3), fun H4 e4 => q H4 ((e2.trans e3).trans e4)⟩⟩) hk hst hpl ht
/-! ### built-in things by name -/
variable {a b : Expr} {i l : Int}
theorem ew_B {id : String} {r : List V → Hp → VK → Prop} (hc : CallR X (.builtin id) r) (hm : X.mg x = none) (q : AW X (e :: es) σ H fun vs H1 => r vs H1 Q) (hv : bootBuiltins x = some (.builtin id) := by decide +kernel) (hg : Gl X x := by rfl) (hn : x ≠ "__name__" := by decide) (hdb : (x == ("__debug__" : Str)) = false := by decide)
    (he : starEach (e :: es) X.env = (false, eval e X.env) :: starEach es X.env := by rfl) (hpl : (backTo pos (starEach es X.env)).any (·.1) = false := by rfl) : EW X (.Call (.Name x p) (e :: es) [] pos) σ H Q := ew_of (pe_callB hc hg hm hv pa_w hn hdb he hpl) q
theorem ew_Ty {T : String} {r : List V → Hp → VK → Prop} (hc : CallR X (.type T) r) (hm : X.mg x = none) (q : AW X (e :: es) σ H fun vs H1 => r vs H1 Q) (hv : bootBuiltins x = some (.type T) := by decide +kernel) (hg : Gl X x := by rfl) (hn : x ≠ "__name__" := by decide) (hdb : (x == ("__debug__" : Str)) = false := by decide)
    (he : starEach (e :: es) X.env = (false, eval e X.env) :: starEach es X.env := by rfl) (hpl : (backTo pos (starEach es X.env)).any (·.1) = false := by rfl) : EW X (.Call (.Name x p) (e :: es) [] pos) σ H Q := ew_of (pe_callTy hc hg hm hv pa_w hn hdb he hpl) q
theorem ev_B {id : String} {r : List V → Hp → VK → Prop} (hc : CallR X (.builtin id) r) (hm : X.mg x = none) (ha : AV X (e :: es) σ H vs) (hr : Evl.RC r vs H v) (hv : bootBuiltins x = some (.builtin id) := by decide +kernel) (hg : Gl X x := by rfl) (hn : x ≠ "__name__" := by decide) (hdb : (x == ("__debug__" : Str)) = false := by decide)
    (he : starEach (e :: es) X.env = (false, eval e X.env) :: starEach es X.env := by rfl) (hpl : (backTo pos (starEach es X.env)).any (·.1) = false := by rfl) : EV X (.Call (.Name x p) (e :: es) [] pos) σ H v := ev_of (pe_callB hc hg hm hv pa_w hn hdb he hpl) (Evl.ev_cb ha hr)
theorem ev_Ty {T : String} {r : List V → Hp → VK → Prop} (hc : CallR X (.type T) r) (hm : X.mg x = none) (ha : AV X (e :: es) σ H vs) (hr : Evl.RC r vs H v) (hv : bootBuiltins x = some (.type T) := by decide +kernel) (hg : Gl X x := by rfl) (hn : x ≠ "__name__" := by decide) (hdb : (x == ("__debug__" : Str)) = false := by decide)
    (he : starEach (e :: es) X.env = (false, eval e X.env) :: starEach es X.env := by rfl) (hpl : (backTo pos (starEach es X.env)).any (·.1) = false := by rfl) : EV X (.Call (.Name x p) (e :: es) [] pos) σ H v := ev_of (pe_callTy hc hg hm hv pa_w hn hdb he hpl) (Evl.ev_cb ha hr)
theorem ev_len {q : Addr} {xs : List V} (hm : X.mg "len" = none) (ha : EV X a σ H (.ref q)) (h : SqL X.K H q xs ∨ SqT X.K H q xs) (hg : Gl X "len" := by rfl) (he : starEach [a] X.env = (false, eval a X.env) :: starEach [] X.env := by rfl) : EV X (.Call (.Name "len" p) [a] [] pos) σ H (.int (xs.length : Int)) :=
  ev_B call_len hm (av_cons ha av_nil he) (fun H1 e1 Q q' => ⟨.ref q, xs.length, rfl, h.elim (fun h => .inl ⟨xs, Evl.ex_l e1 h, rfl⟩) (fun h => .inr ⟨xs, Evl.ex_t e1 h, rfl⟩), q' H1 (Ex.refl H1)⟩) boot_len hg (by decide) (by decide) he
theorem ev_min2 (hm : X.mg "min" = none) (ha : EV X a σ H (.int i)) (hb : EV X b σ H (.int l)) (hc : X.calm = true := by rfl) (hg : Gl X "min" := by rfl) (hb1 : starEach [b] X.env = (false, eval b X.env) :: starEach [] X.env := by rfl) (he : starEach [a, b] X.env = (false, eval a X.env) :: starEach [b] X.env := by rfl) (hpl : (backTo pos (starEach [b] X.env)).any (·.1) = false := by rfl) : EV X (.Call (.Name "min" p) [a, b] [] pos) σ H (.int (min i l)) :=
  ev_B (call_min2 hc) hm (av_cons ha (av_cons hb av_nil hb1) he) (fun H1 e1 Q q' => ⟨i, l, rfl, by
    have e : (if l < i then l else i) = min i l := by omega
    rw [e]
    exact q' H1 (Ex.refl H1)⟩) (by decide +kernel) hg (by decide) (by decide) he hpl
theorem ev_max2 (hm : X.mg "max" = none) (ha : EV X a σ H (.int i)) (hb : EV X b σ H (.int l)) (hc : X.calm = true := by rfl) (hg : Gl X "max" := by rfl) (hb1 : starEach [b] X.env = (false, eval b X.env) :: starEach [] X.env := by rfl) (he : starEach [a, b] X.env = (false, eval a X.env) :: starEach [b] X.env := by rfl) (hpl : (backTo pos (starEach [b] X.env)).any (·.1) = false := by rfl) : EV X (.Call (.Name "max" p) [a, b] [] pos) σ H (.int (max i l)) :=
  ev_B (call_max2 hc) hm (av_cons ha (av_cons hb av_nil hb1) he) (fun H1 e1 Q q' => ⟨i, l, rfl, by
    have e : (if l > i then l else i) = max i l := by omega
    rw [e]
    exact q' H1 (Ex.refl H1)⟩) (by decide +kernel) hg (by decide) (by decide) he hpl
end
end Cut

namespace Cut
/-! ### sums over places -/
def sm : Nat → (Nat → Int) → Int
  | 0, _ => 0
  | n + 1, f => sm n f + f n
theorem sm_congr {f g : Nat → Int} : ∀ {n : Nat}, (∀ i, i < n → f i = g i) → sm n f = sm n g
  | 0, _ => rfl
  | n + 1, h => by
    show sm n f + f n = sm n g + g n
    rw [sm_congr fun i hi => h i (Nat.lt_succ_of_lt hi), h n (Nat.lt_succ_self n)]
theorem sm_add (f g : Nat → Int) : ∀ n : Nat, sm n (fun i => f i + g i) = sm n f + sm n g
  | 0 => rfl
  | n + 1 => by
    show sm n (fun i => f i + g i) + (f n + g n) = (sm n f + f n) + (sm n g + g n)
    rw [sm_add f g n]; omega
theorem sm_sub (f g : Nat → Int) : ∀ n : Nat, sm n (fun i => f i - g i) = sm n f - sm n g
  | 0 => rfl
  | n + 1 => by
    show sm n (fun i => f i - g i) + (f n - g n) = (sm n f + f n) - (sm n g + g n)
    rw [sm_sub f g n]; omega
theorem sm_neg (f : Nat → Int) : ∀ n : Nat, sm n (fun i => - f i) = - sm n f
  | 0 => rfl
  | n + 1 => by
    show sm n (fun i => - f i) + (- f n) = - (sm n f + f n)
    rw [sm_neg f n]; omega
theorem sm_zero : ∀ n : Nat, sm n (fun _ => 0) = 0
  | 0 => rfl
  | n + 1 => by
    show sm n (fun _ => 0) + 0 = 0
    rw [sm_zero n]; rfl
theorem sm_le {f g : Nat → Int} : ∀ {n : Nat}, (∀ i, i < n → f i ≤ g i) → sm n f ≤ sm n g
  | 0, _ => Int.le_refl 0
  | n + 1, h => by
    have h1 := sm_le (n := n) fun i hi => h i (Nat.lt_succ_of_lt hi)
    have h2 := h n (Nat.lt_succ_self n)
    show sm n f + f n ≤ sm n g + g n
    omega
theorem sm_nonneg {f : Nat → Int} {n : Nat} (h : ∀ i, i < n → 0 ≤ f i) : 0 ≤ sm n f := by
  have := sm_le (f := fun _ => 0) (g := f) h
  rw [sm_zero] at this
  exact this
theorem sm_lt {f g : Nat → Int} : ∀ {n : Nat}, (∀ i, i < n → f i ≤ g i) → (k : Nat) → k < n → f k < g k → sm n f < sm n g
  | 0, _, _, h, _ => absurd h (Nat.not_lt_zero _)
  | n + 1, h, k, hk, hl => by
    have h1 := sm_le (n := n) fun i hi => h i (Nat.lt_succ_of_lt hi)
    have h2 := h n (Nat.lt_succ_self n)
    show sm n f + f n < sm n g + g n
    by_cases e : k = n
    · subst e; omega
    · have h3 := sm_lt (n := n) (fun i hi => h i (Nat.lt_succ_of_lt hi)) k (by omega) hl
      omega
/-- equal sums of things that are below one another: all are equal -/
theorem sm_eq_all {f g : Nat → Int} {n : Nat} (h : ∀ i, i < n → f i ≤ g i) (e : sm n g ≤ sm n f) : ∀ i, i < n → f i = g i := fun i hi => by
  by_cases q : f i = g i
  · exact q
  · have := sm_lt h i hi (by have := h i hi; omega)
    omega
theorem sm_swap (f : Nat → Nat → Int) (m : Nat) : ∀ n : Nat, sm n (fun i => sm m (fun j => f i j)) = sm m (fun j => sm n (fun i => f i j))
  | 0 => by
    show (0 : Int) = sm m (fun _ => 0)
    rw [sm_zero]
  | n + 1 => by
    show sm n (fun i => sm m (fun j => f i j)) + sm m (fun j => f n j) = sm m (fun j => sm n (fun i => f i j) + f n j)
    rw [sm_swap f m n, sm_add]
theorem sm_one (k : Nat) (c : Int) : ∀ n : Nat, sm n (fun i => if i = k then c else 0) = if k < n then c else 0
  | 0 => by simp [sm]
  | n + 1 => by
    show sm n (fun i => if i = k then c else 0) + (if n = k then c else 0) = _
    rw [sm_one k c n]
    by_cases h1 : k < n
    · rw [if_pos h1, if_neg (show ¬ n = k by omega), if_pos (show k < n + 1 by omega)]; omega
    · by_cases h2 : n = k
      · rw [if_neg h1, if_pos h2, if_pos (show k < n + 1 by omega)]; omega
      · rw [if_neg h1, if_neg h2, if_neg (show ¬ k < n + 1 by omega)]; omega
theorem sm_one' {n k : Nat} (hk : k < n) (f : Nat → Int) : sm n (fun i => if i = k then f i else 0) = f k := by
  have : sm n (fun i => if i = k then f i else 0) = sm n (fun i => if i = k then f k else 0) := sm_congr fun i _ => by
    by_cases e : i = k
    · rw [if_pos e, if_pos e, e]
    · rw [if_neg e, if_neg e]
  rw [this, sm_one, if_pos hk]
/-- some term is below nought -/
theorem sm_neg_ex {f : Nat → Int} : ∀ {n : Nat}, sm n f < 0 → ∃ i, i < n ∧ f i < 0
  | 0, h => absurd h (by show ¬ ((0 : Int) < 0); omega)
  | n + 1, h => by
    have h' : sm n f + f n < 0 := h
    by_cases q : f n < 0
    · exact ⟨n, Nat.lt_succ_self n, q⟩
    · obtain ⟨i, h1, h2⟩ := sm_neg_ex (n := n) (f := f) (by omega)
      exact ⟨i, Nat.lt_succ_of_lt h1, h2⟩
theorem sm_pos_ex {f : Nat → Int} {n : Nat} (h : 0 < sm n f) : ∃ i, i < n ∧ 0 < f i := by
  obtain ⟨i, h1, h2⟩ := sm_neg_ex (n := n) (f := fun i => - f i) (by rw [sm_neg]; omega)
  exact ⟨i, h1, by omega⟩
/-! ### flows -/
abbrev Mx := Nat → Nat → Int
abbrev Pl := Nat → Bool
/-- what goes out of v -/
def ot (n : Nat) (F : Mx) (v : Nat) : Int := sm n (F v)
/-- the sum over S -/
def onS (n : Nat) (S : Pl) (f : Nat → Int) : Int := sm n fun i => if S i then f i else 0
/-- from S to what is not in S -/
def acr (n : Nat) (S : Pl) (F : Mx) : Int := sm n fun i => sm n fun j => if S i && !S j then F i j else 0
def Anti (F : Mx) : Prop := ∀ i j, F i j = - F j i
theorem anti_self {F : Mx} (h : Anti F) (i : Nat) : F i i = 0 := by have := h i i; omega
theorem sm_if (c : Prop) [Decidable c] (n : Nat) (f : Nat → Int) : sm n (fun j => if c then f j else 0) = if c then sm n f else 0 := by
  by_cases h : c
  · simp only [if_pos h]
  · simp only [if_neg h]; exact sm_zero n
/-- within S all goes out and comes in again -/
theorem out_acr {n : Nat} {F : Mx} (S : Pl) (h : Anti F) : onS n S (ot n F) = acr n S F := by
  have e1 : onS n S (ot n F) = sm n fun i => sm n fun j => if S i then F i j else 0 := sm_congr fun i _ => (sm_if _ n _).symm
  have e2 : ∀ i j, (if S i then F i j else 0) = (if S i && S j then F i j else 0) + (if S i && !S j then F i j else 0) := fun i j => by
    cases S i <;> cases S j <;> simp
  have e3 : (sm n fun i => sm n fun j => if S i then F i j else 0) = (sm n fun i => sm n fun j => if S i && S j then F i j else 0) + acr n S F := by
    unfold acr
    rw [← sm_add]
    refine sm_congr fun i _ => ?_
    rw [← sm_add]
    exact sm_congr fun j _ => e2 i j
  have e4 : (sm n fun i => sm n fun j => if S i && S j then F i j else 0) = - (sm n fun i => sm n fun j => if S i && S j then F i j else 0) := by
    conv => lhs; rw [sm_swap]
    rw [← sm_neg]
    refine sm_congr fun j _ => ?_
    rw [← sm_neg]
    refine sm_congr fun i _ => ?_
    rw [Bool.and_comm, h i j]
    cases (S j && S i) <;> simp
  rw [e1, e3]
  omega
/-- a flow in the web W from fr to to: no tie is overdrawn, at inner places all is balanced -/
structure Flw (n : Nat) (W : Mx) (fr to : Pl) (F : Mx) : Prop where
  anti : Anti F
  cap : ∀ i j, i < n → j < n → F i j ≤ W i j
  bal : ∀ v, v < n → fr v = false → to v = false → ot n F v = 0
/-- a side between the ends -/
structure Sd (n : Nat) (fr to : Pl) (S : Pl) : Prop where
  fr : ∀ v, v < n → fr v = true → S v = true
  to : ∀ v, v < n → to v = true → S v = false
def wor (n : Nat) (fr : Pl) (F : Mx) : Int := onS n fr (ot n F)
section
variable {n : Nat} {W : Mx} {fr to S : Pl} {F G : Mx}
theorem wor_acr (f : Flw n W fr to F) (s : Sd n fr to S) : wor n fr F = acr n S F := by
  rw [← out_acr S f.anti]
  refine sm_congr fun i hi => ?_
  cases e1 : fr i with
  | true => rw [s.fr i hi e1]
  | false =>
    cases e2 : S i with
    | false => rfl
    | true =>
      cases e3 : to i with
      | true =>
        rw [s.to i hi e3] at e2
        cases e2
      | false =>
        rw [f.bal i hi e1 e3]
        rfl
theorem acr_le (h : ∀ i j, i < n → j < n → F i j ≤ W i j) (S : Pl) : acr n S F ≤ acr n S W := sm_le fun i hi => sm_le fun j hj => by
  by_cases q : (S i && !S j) = true
  · rw [if_pos q, if_pos q]; exact h i j hi hj
  · rw [if_neg q, if_neg q]; omega
theorem wor_le (f : Flw n W fr to F) (s : Sd n fr to S) : wor n fr F ≤ acr n S W := by
  rw [wor_acr f s]
  exact acr_le f.cap S
/-- all ties out of S are full -/
def Full (n : Nat) (W : Mx) (S : Pl) (F : Mx) : Prop := ∀ i j, i < n → j < n → S i = true → S j = false → F i j = W i j
theorem wor_full (f : Flw n W fr to F) (s : Sd n fr to S) (h : Full n W S F) : wor n fr F = acr n S W := by
  rw [wor_acr f s]
  refine sm_congr fun i hi => sm_congr fun j hj => ?_
  by_cases q : (S i && !S j) = true
  · rw [if_pos q, if_pos q]
    simp only [Bool.and_eq_true, Bool.not_eq_true'] at q
    exact h i j hi hj q.1 q.2
  · rw [if_neg q, if_neg q]
theorem full_of (f : Flw n W fr to F) (s : Sd n fr to S) (h : acr n S W ≤ wor n fr F) : Full n W S F := fun i j hi hj e1 e2 => by
  rw [wor_acr f s] at h
  have h1 := sm_eq_all (n := n) (f := fun i => sm n fun j => if S i && !S j then F i j else 0) (g := fun i => sm n fun j => if S i && !S j then W i j else 0) (fun i hi => sm_le fun j hj => by
    by_cases q : (S i && !S j) = true
    · rw [if_pos q, if_pos q]; exact f.cap i j hi hj
    · rw [if_neg q, if_neg q]; omega) h i hi
  have h2 := sm_eq_all (n := n) (f := fun j => if S i && !S j then F i j else 0) (g := fun j => if S i && !S j then W i j else 0) (fun j hj => by
    by_cases q : (S i && !S j) = true
    · rw [if_pos q, if_pos q]; exact f.cap i j hi hj
    · rw [if_neg q, if_neg q]; omega) (by rw [h1]; exact Int.le_refl _) j hj
  simp only [e1, e2] at h2
  exact h2
/-! ### what is reached -/
inductive Rch (n : Nat) (R : Nat → Nat → Prop) (A : Pl) : Nat → Prop where
  | base {v : Nat} (hv : v < n) (h : A v = true) : Rch n R A v
  | step {u v : Nat} (h : Rch n R A u) (hv : v < n) (r : R u v) : Rch n R A v
theorem Rch.lt {R : Nat → Nat → Prop} {A : Pl} {v : Nat} (h : Rch n R A v) : v < n := by
  cases h with
  | base hv _ => exact hv
  | step _ hv _ => exact hv
/-- there is room -/
def Rm (W F : Mx) (i j : Nat) : Prop := F i j < W i j
/-- a greatest flow: no way leads on -/
structure Gst (n : Nat) (W : Mx) (fr to : Pl) (F : Mx) : Prop where
  flw : Flw n W fr to F
  no : ∀ v, Rch n (Rm W F) fr v → to v = false
/-- the places that are reached, as a side -/
noncomputable def rS (n : Nat) (R : Nat → Nat → Prop) (A : Pl) : Pl := fun v => @decide (Rch n R A v) (Classical.propDecidable _)
theorem rS_iff {R : Nat → Nat → Prop} {A : Pl} {v : Nat} : rS n R A v = true ↔ Rch n R A v := @decide_eq_true_iff _ (Classical.propDecidable _)
theorem rS_not {R : Nat → Nat → Prop} {A : Pl} {v : Nat} : rS n R A v = false ↔ ¬ Rch n R A v := @decide_eq_false_iff_not _ (Classical.propDecidable _)
theorem Gst.sd (g : Gst n W fr to F) : Sd n fr to (rS n (Rm W F) fr) :=
  ⟨fun v hv h => rS_iff.mpr (.base hv h), fun v hv h => rS_not.mpr fun r => by
    rw [g.no v r] at h
    cases h⟩
theorem Gst.full (g : Gst n W fr to F) : Full n W (rS n (Rm W F) fr) F := fun i j hi hj h1 h2 => by
  have c := g.flw.cap i j hi hj
  by_cases q : F i j < W i j
  · exact absurd (Rch.step (rS_iff.mp h1) hj q) (rS_not.mp h2)
  · omega
/-- the worth is the weight of a side; no side weighs less -/
theorem Gst.least (g : Gst n W fr to F) : (∃ S, Sd n fr to S ∧ wor n fr F = acr n S W) ∧ ∀ S, Sd n fr to S → wor n fr F ≤ acr n S W :=
  ⟨⟨_, g.sd, wor_full g.flw g.sd g.full⟩, fun _ s => wor_le g.flw s⟩
/-- a flow with a full side is a greatest one -/
theorem gst_of (f : Flw n W fr to F) (s : Sd n fr to S) (h : Full n W S F) : Gst n W fr to F := by
  refine ⟨f, fun v r => ?_⟩
  have key : S v = true := by
    induction r with
    | base hv h => exact s.fr _ hv h
    | step r hv q ih =>
      rename_i u v
      cases e : S v with
      | true => rfl
      | false =>
        have := h u v r.lt hv ih e
        have q' : F u v < W u v := q
        omega
  cases e : to v with
  | false => rfl
  | true =>
    rw [s.to v r.lt e] at key
    cases key
theorem Gst.wor_eq (g : Gst n W fr to F) (h : Gst n W fr to G) : wor n fr F = wor n fr G := by
  have h1 := wor_le g.flw h.sd
  rw [← wor_full h.flw h.sd h.full] at h1
  have h2 := wor_le h.flw g.sd
  rw [← wor_full g.flw g.sd g.full] at h2
  omega
/-- what one greatest flow reaches all others reach -/
theorem Gst.reach (g : Gst n W fr to F) (h : Gst n W fr to G) {v : Nat} (r : Rch n (Rm W G) fr v) : Rch n (Rm W F) fr v := by
  have fu : Full n W (rS n (Rm W F) fr) G := full_of h.flw g.sd (by rw [← wor_full g.flw g.sd g.full, g.wor_eq h]; exact Int.le_refl _)
  induction r with
  | base hv a => exact .base hv a
  | step r hv q ih =>
    rename_i u v
    cases e : rS n (Rm W F) fr v with
    | true => exact rS_iff.mp e
    | false =>
      have := fu u v r.lt hv (rS_iff.mpr ih) e
      have q' : G u v < W u v := q
      omega
/-- .. from behind -/
def Rb (W F : Mx) (i j : Nat) : Prop := F j i < W j i
theorem Gst.noB (g : Gst n W fr to F) : ∀ v, Rch n (Rb W F) to v → fr v = false := fun v r => by
  have key : ¬ Rch n (Rm W F) fr v := by
    induction r with
    | base hv h =>
      intro z
      rw [g.no _ z] at h
      cases h
    | step r hv q ih => exact fun z => ih (.step z r.lt q)
  cases e : fr v with
  | false => rfl
  | true => exact absurd (Rch.base r.lt e) key
theorem Gst.sdB (g : Gst n W fr to F) : Sd n fr to (fun v => !rS n (Rb W F) to v) :=
  ⟨fun v hv h => by
    have : rS n (Rb W F) to v = false := rS_not.mpr fun r => by
      rw [g.noB v r] at h
      cases h
    show (!rS n (Rb W F) to v) = true
    rw [this]; rfl, fun v hv h => by
    have : rS n (Rb W F) to v = true := rS_iff.mpr (.base hv h)
    show (!rS n (Rb W F) to v) = false
    rw [this]; rfl⟩
theorem Gst.fullB (g : Gst n W fr to F) : Full n W (fun v => !rS n (Rb W F) to v) F := fun i j hi hj h1 h2 => by
  have c := g.flw.cap i j hi hj
  have h1' : rS n (Rb W F) to i = false := by simpa using h1
  have h2' : rS n (Rb W F) to j = true := by simpa using h2
  by_cases q : F i j < W i j
  · exact absurd (Rch.step (rS_iff.mp h2') hi q) (rS_not.mp h1')
  · omega
theorem Gst.reachB (g : Gst n W fr to F) (h : Gst n W fr to G) {v : Nat} (r : Rch n (Rb W G) to v) : Rch n (Rb W F) to v := by
  have fu : Full n W (fun v => !rS n (Rb W F) to v) G := full_of h.flw g.sdB (by rw [← wor_full g.flw g.sdB g.fullB, g.wor_eq h]; exact Int.le_refl _)
  induction r with
  | base hv a => exact .base hv a
  | step r hv q ih =>
    rename_i u v
    cases e : rS n (Rb W F) to v with
    | true => exact rS_iff.mp e
    | false =>
      have := fu v u hv r.lt (by show (!rS n (Rb W F) to v) = true; rw [e]; rfl) (by show (!rS n (Rb W F) to u) = false; rw [rS_iff.mpr ih]; rfl)
      have q' : G v u < W v u := q
      omega
end
/-! ### bringing more from a place to another one -/
def pt (F : Mx) (i j : Nat) (x : Int) : Mx := fun a b => F a b + (if a = i ∧ b = j then x else 0) - (if a = j ∧ b = i then x else 0)
theorem pt_anti {F : Mx} (h : Anti F) (i j : Nat) (x : Int) : Anti (pt F i j x) := fun a b => by
  have h0 := h a b
  unfold pt
  have e1 : (b = i ∧ a = j) = (a = j ∧ b = i) := propext ⟨fun z => ⟨z.2, z.1⟩, fun z => ⟨z.2, z.1⟩⟩
  have e2 : (b = j ∧ a = i) = (a = i ∧ b = j) := propext ⟨fun z => ⟨z.2, z.1⟩, fun z => ⟨z.2, z.1⟩⟩
  simp only [e1, e2]
  omega
theorem pt_ot {n : Nat} {F : Mx} {i j : Nat} (hi : i < n) (hj : j < n) (x : Int) (v : Nat) : ot n (pt F i j x) v = ot n F v + (if v = i then x else 0) - (if v = j then x else 0) := by
  unfold ot pt
  rw [sm_sub, sm_add]
  have e1 : sm n (fun b => if v = i ∧ b = j then x else 0) = if v = i then x else 0 := by
    by_cases e : v = i
    · rw [if_pos e]
      have : (sm n fun b => if v = i ∧ b = j then x else 0) = sm n fun b => if b = j then x else 0 := sm_congr fun b _ => by
        by_cases q : b = j
        · rw [if_pos ⟨e, q⟩, if_pos q]
        · rw [if_neg (fun z => q z.2), if_neg q]
      rw [this, sm_one, if_pos hj]
    · rw [if_neg e]
      have : (sm n fun b => if v = i ∧ b = j then x else 0) = sm n fun _ => 0 := sm_congr fun b _ => if_neg fun z => e z.1
      rw [this, sm_zero]
  have e2 : sm n (fun b => if v = j ∧ b = i then x else 0) = if v = j then x else 0 := by
    by_cases e : v = j
    · rw [if_pos e]
      have : (sm n fun b => if v = j ∧ b = i then x else 0) = sm n fun b => if b = i then x else 0 := sm_congr fun b _ => by
        by_cases q : b = i
        · rw [if_pos ⟨e, q⟩, if_pos q]
        · rw [if_neg (fun z => q z.2), if_neg q]
      rw [this, sm_one, if_pos hi]
    · rw [if_neg e]
      have : (sm n fun b => if v = j ∧ b = i then x else 0) = sm n fun _ => 0 := sm_congr fun b _ => if_neg fun z => e z.1
      rw [this, sm_zero]
  rw [e1, e2]
end Cut

namespace Cut
open PySem PySem.Spec PyProof.Rows L2 Evl
/-! ### lists of small numbers -/
theorem nodup_lt : ∀ (n : Nat) (l : List Nat), l.Nodup → (∀ x ∈ l, x < n) → l.length ≤ n
  | 0, l, _, h => by
    cases l with
    | nil => exact Nat.le_refl 0
    | cons x r => exact absurd (h x List.mem_cons_self) (Nat.not_lt_zero _)
  | n + 1, l, hn, h => by
    by_cases q : n ∈ l
    · have h1 := nodup_lt n (l.erase n) (hn.erase n) fun x hx => by
        have h2 := (List.Nodup.mem_erase_iff hn).mp hx
        have h3 := h x h2.2
        have h4 := h2.1
        omega
      rw [List.length_erase_of_mem q] at h1
      omega
    · have h1 := nodup_lt n l hn fun x hx => by
        have h2 := h x hx
        have h3 : x ≠ n := fun e => q (e ▸ hx)
        omega
      omega
/-! ### amounts: so many 55,440ths, in least terms -/
def loA (m : Nat) : Nat := m / Nat.gcd m 55440
def loB (m : Nat) : Nat := 55440 / Nat.gcd m 55440
theorem gcd_pos (m : Nat) : 0 < Nat.gcd m 55440 := Nat.gcd_pos_of_pos_right m (by decide)
theorem loB_pos (m : Nat) : 0 < loB m := Nat.div_pos (Nat.le_of_dvd (by decide) (Nat.gcd_dvd_right m 55440)) (gcd_pos m)
theorem loB_dvd (m : Nat) : loB m ∣ 55440 := Nat.div_dvd_of_dvd (Nat.gcd_dvd_right m 55440)
theorem loA_mul (m : Nat) : loA m * Nat.gcd m 55440 = m := Nat.div_mul_cancel (Nat.gcd_dvd_left m 55440)
theorem loB_mul (m : Nat) : loB m * Nat.gcd m 55440 = 55440 := Nat.div_mul_cancel (Nat.gcd_dvd_right m 55440)
theorem lo_cop (m : Nat) : Nat.gcd (loA m) (loB m) = 1 := by
  have h : Nat.gcd (loA m * Nat.gcd m 55440) (loB m * Nat.gcd m 55440) = Nat.gcd (loA m) (loB m) * Nat.gcd m 55440 := Nat.gcd_mul_right _ _ _
  rw [loA_mul, loB_mul] at h
  have gp := gcd_pos m
  have h2 : Nat.gcd (loA m) (loB m) * Nat.gcd m 55440 = 1 * Nat.gcd m 55440 := by omega
  exact Nat.eq_of_mul_eq_mul_right gp h2
theorem lo_back (m : Nat) : 55440 / loB m = Nat.gcd m 55440 := by
  have hp := loB_pos m
  refine Nat.div_eq_of_eq_mul_left hp ?_
  rw [Nat.mul_comm]
  exact (loB_mul m).symm
theorem lo_parts (m : Nat) : loA m * (55440 / loB m) = m := by rw [lo_back, loA_mul]
theorem loA_zero : loA 0 = 0 := by decide
theorem loB_zero : loB 0 = 1 := by decide
theorem loA_pos {m : Nat} (h : 0 < m) : 0 < loA m := by
  have h1 := loA_mul m
  cases e : loA m with
  | zero =>
    rw [e] at h1
    omega
  | succ k => omega
theorem loB_le (m : Nat) : loB m ≤ 55440 := Nat.div_le_self _ _
theorem loA_le (m : Nat) : loA m ≤ m := Nat.div_le_self _ _
theorem loA_eq_zero {m : Nat} : loA m = 0 ↔ m = 0 := ⟨fun h => by
  by_cases q : 0 < m
  · have := loA_pos q
    omega
  · omega, fun h => by rw [h]; exact loA_zero⟩
theorem lo_inj {m k : Nat} (h1 : loA m = loA k) (h2 : loB m = loB k) : m = k := by
  rw [← lo_parts m, ← lo_parts k, h1, h2]
/-- least terms of a fraction -/
theorem least_terms {x y n d s t : Nat} (hs : 0 < s) (ht : 0 < t) (hd : 0 < d) (e1 : x * t = n * s) (e2 : y * t = d * s) : x / Nat.gcd x y = n / Nat.gcd n d ∧ y / Nat.gcd x y = d / Nat.gcd n d := by
  have hy : 0 < y := by
    cases y with
    | zero =>
      rw [Nat.zero_mul] at e2
      have := Nat.mul_pos hd hs
      omega
    | succ k => omega
  have g : Nat.gcd x y * t = Nat.gcd n d * s := by
    have h1 : Nat.gcd (t * x) (t * y) = t * Nat.gcd x y := Nat.gcd_mul_left t x y
    have h2 : Nat.gcd (s * n) (s * d) = s * Nat.gcd n d := Nat.gcd_mul_left s n d
    rw [Nat.mul_comm t x, Nat.mul_comm t y, e1, e2, Nat.mul_comm n s, Nat.mul_comm d s, h2] at h1
    rw [Nat.mul_comm _ t, Nat.mul_comm _ s]
    exact h1.symm
  have gp : 0 < Nat.gcd x y := Nat.gcd_pos_of_pos_right x hy
  have gp2 : 0 < Nat.gcd n d := Nat.gcd_pos_of_pos_right n hd
  have key : ∀ {a b : Nat}, a * t = b * s → a / Nat.gcd x y = b / Nat.gcd n d := fun {a b} e => by
    have h1 : a / Nat.gcd x y = (a * t) / (Nat.gcd x y * t) := (Nat.mul_div_mul_right a (Nat.gcd x y) ht).symm
    have h2 : b / Nat.gcd n d = (b * s) / (Nat.gcd n d * s) := (Nat.mul_div_mul_right b (Nat.gcd n d) hs).symm
    rw [h1, h2, e, g]
  exact ⟨key e1, key e2⟩
/-- the sum of two amounts -/
theorem lo_plus (m k : Nat) : (loA m * loB k + loA k * loB m) / Nat.gcd (loA m * loB k + loA k * loB m) (loB m * loB k) = loA (m + k) ∧ (loB m * loB k) / Nat.gcd (loA m * loB k + loA k * loB m) (loB m * loB k) = loB (m + k) := by
  refine least_terms (s := 55440) (t := Nat.gcd m 55440 * Nat.gcd k 55440) (by decide) (Nat.mul_pos (gcd_pos m) (gcd_pos k)) (by decide) ?_ ?_
  · have h1 := loA_mul m
    have h2 := loA_mul k
    have h3 := loB_mul m
    have h4 := loB_mul k
    calc (loA m * loB k + loA k * loB m) * (Nat.gcd m 55440 * Nat.gcd k 55440)
        = (loA m * Nat.gcd m 55440) * (loB k * Nat.gcd k 55440) + (loA k * Nat.gcd k 55440) * (loB m * Nat.gcd m 55440) := by
          rw [Nat.add_mul]
          congr 1
          · rw [Nat.mul_mul_mul_comm]
          · rw [Nat.mul_comm (Nat.gcd m 55440) (Nat.gcd k 55440), Nat.mul_mul_mul_comm]
      _ = (m + k) * 55440 := by rw [h1, h2, h3, h4, Nat.add_mul]
  · calc loB m * loB k * (Nat.gcd m 55440 * Nat.gcd k 55440) = (loB m * Nat.gcd m 55440) * (loB k * Nat.gcd k 55440) := Nat.mul_mul_mul_comm _ _ _ _
      _ = 55440 * 55440 := by rw [loB_mul, loB_mul]
/-- comparing two amounts -/
theorem lo_lt (m k : Nat) : loA m * loB k < loA k * loB m ↔ m < k := by
  have h1 := loA_mul m
  have h2 := loA_mul k
  have h3 := loB_mul m
  have h4 := loB_mul k
  have gp : 0 < Nat.gcd m 55440 * Nat.gcd k 55440 := Nat.mul_pos (gcd_pos m) (gcd_pos k)
  have e1 : loA m * loB k * (Nat.gcd m 55440 * Nat.gcd k 55440) = m * 55440 := by
    rw [Nat.mul_mul_mul_comm, h1, h4]
  have e2 : loA k * loB m * (Nat.gcd m 55440 * Nat.gcd k 55440) = k * 55440 := by
    rw [Nat.mul_comm (Nat.gcd m 55440), Nat.mul_mul_mul_comm, h2, h3]
  constructor
  · intro h
    have := (Nat.mul_lt_mul_right gp).mpr h
    rw [e1, e2] at this
    omega
  · intro h
    refine (Nat.mul_lt_mul_right gp).mp ?_
    rw [e1, e2]
    omega
/-- a tuple that stands for ever -/
def Tp (K : PySem.W.Frag) (H : Hp) (p : Addr) (xs : List V) : Prop := H p = some (.tup xs) ∨
  ∃ (o : Obj) (its : Array Value) (n : Nat), K.lookup p = some o ∧ o.cls = .type "tuple" ∧ o.data = .seq its n ∧ its.size ≤ sizeLine ∧ Vals xs its.toList
/-- a list or tuple that stands -/
def Sq (K : PySem.W.Frag) (H : Hp) (p : Addr) (xs : List V) : Prop := SqL K H p xs ∨ SqT K H p xs
/-- all but what stands at M is as it was; tuples always -/
def Km (M : List Addr) (H H' : Hp) : Prop := ∀ b o, H b = some o → b ∉ M → H' b = some o
section
variable {K : PySem.W.Frag} {H H' H2 : Hp} {p d : Addr} {xs : List V} {M N : List Addr} {o : HO}
theorem Tp.sq (h : Tp K H p xs) : SqT K H p xs := by
  rcases h with h | h
  · exact .inl (.inl h)
  · exact .inr h
theorem Tp.mono (h : Tp K H p xs) (e : Ex H H') : Tp K H' p xs := by
  rcases h with h | h
  · exact .inl (e _ _ h)
  · exact .inr h
theorem Tp.of (h : H p = some (.tup xs)) : Tp K H p xs := .inl h
theorem Km.of (e : Ex H H') : Km M H H' := fun b o h _ => e b o h
theorem Km.ex (e : Km [] H H') : Ex H H' := fun b o h => e b o h (by simp)
theorem Km.refl : Km M H H := fun b o h _ => h
theorem Km.trans (a : Km M H H') (b : Km M H' H2) : Km M H H2 := fun c o h n => b c o (a c o h n) n
theorem Km.sub (a : Km M H H') (s : ∀ x ∈ M, x ∈ N) : Km N H H' := fun c o h n => a c o h fun z => n (s c z)
theorem Km.ex_of (a : Km M H2 H') (e : Ex H H2) (n : ∀ m ∈ M, H m = none) : Ex H H' := fun b o h => a b o (e b o h) fun z => by
  rw [n b z] at h
  cases h
theorem Km.upd (a : Km M H H') (h : p ∈ M) : Km M H (upd H' p o) := fun b u q n => by
  have : b ≠ p := fun e => n (e ▸ h)
  rw [upd_ne this]
  exact a b u q n
/-- a tuple stays, whatever of another kind is changed -/
theorem Tp.km (h : Tp K H p xs) (e : Km M H H') (n : ∀ m ∈ M, ∀ ys, H m ≠ some (.tup ys)) : Tp K H' p xs := by
  rcases h with h | h
  · exact .inl (e _ _ h fun z => n p z xs h)
  · exact .inr h
end
/-- an amount of so many parts -/
def Amt (K : PySem.W.Frag) (H : Hp) (v : V) (m : Nat) : Prop := ∃ p, v = .ref p ∧ Tp K H p [.int (loA m : Nat), .int (loB m : Nat)]
section
variable {K : PySem.W.Frag} {H H' : Hp} {v : V} {m : Nat} {M : List Addr}
theorem Amt.mono (h : Amt K H v m) (e : Ex H H') : Amt K H' v m := by
  obtain ⟨p, h1, h2⟩ := h
  exact ⟨p, h1, h2.mono e⟩
theorem Amt.km (h : Amt K H v m) (e : Km M H H') (n : ∀ m ∈ M, ∀ ys, H m ≠ some (.tup ys)) : Amt K H' v m := by
  obtain ⟨p, h1, h2⟩ := h
  exact ⟨p, h1, h2.km e n⟩
theorem Amt.new {p : Addr} (h : H p = some (.tup [.int (loA m : Nat), .int (loB m : Nat)])) : Amt K H (.ref p) m := ⟨p, rfl, .inl h⟩
end
/-! ### dicts whose keys are pairs of places -/
def kp (i j : Nat) : List Key := [Sum.inl (i : Int), Sum.inl (j : Int)]
theorem kp_inj {i j a b : Nat} : kp i j = kp a b ↔ i = a ∧ j = b := by
  constructor
  · intro h
    unfold kp at h
    simp only [List.cons.injEq, Sum.inl.injEq, and_true] at h
    omega
  · rintro ⟨rfl, rfl⟩
    rfl
/-- f tells what stands at the pairs -/
structure Pd (n : Nat) (kvs : List (List Key × V)) (f : Nat → Nat → Option V) : Prop where
  key : ∀ p ∈ kvs, ∃ i j, i < n ∧ j < n ∧ p.1 = kp i j
  nd : (kvs.map (·.1)).Nodup
  val : ∀ i j, valV kvs (kp i j) = f i j
theorem Pd.nil (n : Nat) : Pd n [] fun _ _ => none := ⟨fun p h => (by cases h), List.nodup_nil, fun _ _ => rfl⟩
theorem keys_putK {kvs : List (List Key × V)} {k : List Key} {v : V} (h : (valV kvs k).isSome = true) : (putK kvs k v).map (·.1) = kvs.map (·.1) := by
  unfold putK
  rw [valV_any, h, if_pos rfl]
  rw [List.map_map]
  refine List.map_congr_left fun kv _ => ?_
  show (if kv.1 = k then (kv.1, v) else kv).1 = kv.1
  by_cases e : kv.1 = k
  · rw [if_pos e]
  · rw [if_neg e]
section
variable {n : Nat} {kvs : List (List Key × V)} {f : Nat → Nat → Option V} {i j : Nat} {v : V}
theorem Pd.put (h : Pd n kvs f) (hi : i < n) (hj : j < n) (v : V) : Pd n (putK kvs (kp i j) v) fun a b => if a = i ∧ b = j then some v else f a b := by
  refine ⟨?_, ?_, fun a b => ?_⟩
  · cases e : valV kvs (kp i j) with
    | none =>
      rw [putK_new v e]
      intro p hp
      rcases List.mem_append.mp hp with hp | hp
      · exact h.key p hp
      · rw [List.mem_singleton.mp hp]
        exact ⟨i, j, hi, hj, rfl⟩
    | some u =>
      intro p hp
      have hk : p.1 ∈ (putK kvs (kp i j) v).map (·.1) := List.mem_map_of_mem hp
      rw [keys_putK (by rw [e]; rfl)] at hk
      obtain ⟨q, hq, eq⟩ := List.mem_map.mp hk
      obtain ⟨a, b, ha, hb, e2⟩ := h.key q hq
      exact ⟨a, b, ha, hb, by rw [← eq]; exact e2⟩
  · cases e : valV kvs (kp i j) with
    | none => exact nd_putK v h.nd e
    | some u =>
      rw [keys_putK (by rw [e]; rfl)]
      exact h.nd
  · rw [valV_put]
    by_cases e : a = i ∧ b = j
    · rw [if_pos (kp_inj.mpr e), if_pos e]
    · rw [if_neg fun z => e (kp_inj.mp z), if_neg e]
      exact h.val a b
def codeK (n : Nat) : List Key → Nat
  | [.inl a, .inl b] => a.toNat * n + b.toNat
  | _ => 0
theorem codeK_kp (i j : Nat) : codeK n (kp i j) = i * n + j := by
  show ((i : Int).toNat * n + (j : Int).toNat) = _
  rw [Int.toNat_natCast, Int.toNat_natCast]
theorem code_lt (hi : i < n) (hj : j < n) : i * n + j < n * n := by
  have : (i + 1) * n ≤ n * n := Nat.mul_le_mul_right n hi
  rw [Nat.succ_mul] at this
  omega
theorem code_inj {a b : Nat} (hj : j < n) (hb : b < n) (h : i * n + j = a * n + b) : i = a ∧ j = b := by
  have e1 : (i * n + j) / n = i := by
    rw [Nat.mul_comm, Nat.mul_add_div (by omega), Nat.div_eq_of_lt hj, Nat.add_zero]
  have e2 : (a * n + b) / n = a := by
    rw [Nat.mul_comm, Nat.mul_add_div (by omega), Nat.div_eq_of_lt hb, Nat.add_zero]
  have : i = a := by rw [← e1, ← e2, h]
  subst this
  exact ⟨rfl, by omega⟩
theorem Pd.len (h : Pd n kvs f) : kvs.length ≤ n * n := by
  have h1 : ((kvs.map (·.1)).map (codeK n)).Nodup := by
    refine List.pairwise_map.mpr ?_
    refine List.Pairwise.imp_of_mem (fun {a b} ha hb hab => ?_) h.nd
    obtain ⟨p, hp, e1⟩ := List.mem_map.mp ha
    obtain ⟨q, hq, e2⟩ := List.mem_map.mp hb
    obtain ⟨i, j, hi, hj, e3⟩ := h.key p hp
    obtain ⟨i', j', hi', hj', e4⟩ := h.key q hq
    intro z
    rw [← e1, ← e2, e3, e4, codeK_kp, codeK_kp] at z
    have := code_inj hj hj' z
    exact hab (by rw [← e1, ← e2, e3, e4, this.1, this.2])
  have h2 := nodup_lt (n * n) _ h1 fun x hx => by
    obtain ⟨k, hk, e⟩ := List.mem_map.mp hx
    obtain ⟨p, hp, e1⟩ := List.mem_map.mp hk
    obtain ⟨i, j, hi, hj, e3⟩ := h.key p hp
    rw [← e, ← e1, e3, codeK_kp]
    exact code_lt hi hj
  rw [List.length_map, List.length_map] at h2
  exact h2
theorem Pd.small (h : Pd n kvs f) (hn : n ≤ 40) : kvs.length < sizeLine := by
  have h1 := h.len
  have h2 : n * n ≤ 40 * 40 := Nat.mul_le_mul hn hn
  exact Nat.lt_of_le_of_lt (Nat.le_trans h1 h2) (by decide)
theorem Pd.inn (h : Pd n kvs f) (e : f i j = some v) : i < n ∧ j < n := by
  have e1 := h.val i j
  rw [e] at e1
  have := valV_in e1
  obtain ⟨p, hp, e2⟩ := List.mem_map.mp this
  obtain ⟨a, b, ha, hb, e3⟩ := h.key p hp
  rw [e3] at e2
  obtain ⟨rfl, rfl⟩ := kp_inj.mp e2
  exact ⟨ha, hb⟩
theorem Pd.ext {g : Nat → Nat → Option V} (h : Pd n kvs f) (e : ∀ i j, f i j = g i j) : Pd n kvs g := ⟨h.key, h.nd, fun i j => (h.val i j).trans (e i j)⟩
end
end Cut

namespace Cut
open PySem PySem.Spec PyProof.Rows L2 Evl
/-! ### comprehensions: the block's readings -/
section
variable (X : Cx) (scope : Scope)
abbrev Bk (s0 : Shared) (H0 : Hp) (C : Addr) (cl : List (Str × Addr)) (fp : List Addr) : Cx := X.blk s0 H0 scope (compEnvC scope cl C X.env) fp
def EB (e : Expr) : TE := fun σ H Q => ∀ s0 H0 C cl fp, EW (Bk X scope s0 H0 C cl fp) e σ H Q
def TB (e : Expr) : TT := fun σ H Q => ∀ s0 H0 C cl fp, TW (Bk X scope s0 H0 C cl fp) e σ H Q
def GB (g : Expr) : TG := fun v σ H Q => ∀ s0 H0 C cl fp, GW (Bk X scope s0 H0 C cl fp) g v σ H Q
end
section
variable {X : Cx} {scope : Scope} {σ : L2.St} {H : Hp} {pos : Pos} {elt tg iter c : Expr} {own : List (Str × Nat)} {Q : VK}
theorem pe_b {s0 H0 C cl fp} {e : Expr} : PE (Bk X scope s0 H0 C cl fp) e (EB X scope e) := ⟨fun pins s σ H Q I h => h s0 H0 C cl fp pins s I⟩
theorem pt_b {s0 H0 C cl fp} {e : Expr} : PT (Bk X scope s0 H0 C cl fp) e (TB X scope e) := ⟨fun pins s σ H Q I h => h s0 H0 C cl fp pins s I⟩
theorem pg_b {s0 H0 C cl fp} {g : Expr} : PG (Bk X scope s0 H0 C cl fp) g (GB X scope g) := ⟨fun pins s σ H v u Q I r h => h s0 H0 C cl fp pins s u I r⟩
/-- without a test -/
theorem ew_lc (q : tLc (IW X tg iter) (GB X scope tg) tYes (EB X scope elt) (own.map (·.2)) σ H Q) (hN : X.N.Nodup := by assumption) (ok : BlkOk X.N X.env.scope scope own := by exact blkOk_by (by kernel_rfl)) (hc : X.calm = true := by rfl) (hs : ∀ x, foldedSetIterable iter X.env x = pure x := by intro _; rfl) :
    EW X (.ListComp elt [⟨tg, iter, [], 0⟩] scope pos) σ H Q := ew_of (pe_lc hc hN pi_w ok (fun _ _ _ _ _ => pg_b) (fun _ _ _ _ _ => pts_nil) (fun _ _ _ _ _ => pe_b) hs) q
theorem ew_lcIf (q : tLc (IW X tg iter) (GB X scope tg) (TB X scope c) (EB X scope elt) (own.map (·.2)) σ H Q) (hN : X.N.Nodup := by assumption) (ok : BlkOk X.N X.env.scope scope own := by exact blkOk_by (by kernel_rfl)) (hc : X.calm = true := by rfl) (hs : ∀ x, foldedSetIterable iter X.env x = pure x := by intro _; rfl) :
    EW X (.ListComp elt [⟨tg, iter, [c], 0⟩] scope pos) σ H Q := ew_of (pe_lc hc hN pi_w ok (fun _ _ _ _ _ => pg_b) (fun _ _ _ _ _ => pts_one pt_b) (fun _ _ _ _ _ => pe_b) hs) q
/-- name = [..] -/
theorem sw_setLc {y : Str} {py spos : Pos} {D : Ends} (i : Nat) (q : tLc (IW X tg iter) (GB X scope tg) tYes (EB X scope elt) (own.map (·.2)) σ H fun v H1 => D.nx (σ.set i (some v)) H1) (hN : X.N.Nodup := by assumption) (ok : BlkOk X.N X.env.scope scope own := by exact blkOk_by (by kernel_rfl)) (hy : X.N[i]? = some y := by rfl) (hyl : X.env.scope.names.lookup y = some .local := by rfl)
    (hsw : swapsWith (.ListComp elt [⟨tg, iter, [], 0⟩] scope pos) (some (.Name y py)) spos.line X.env = pure true := by exact sw_true rfl rfl rfl (by decide +kernel)) (hc : X.calm = true := by rfl) (hs : ∀ x, foldedSetIterable iter X.env x = pure x := by intro _; rfl) :
    SW X (.Assign [.Name y py] (.ListComp elt [⟨tg, iter, [], 0⟩] scope pos) spos) D σ H := sw_of (ps_setLc hc hN hy hyl hsw pi_w ok (fun _ _ _ _ _ => pg_b) (fun _ _ _ _ _ => pts_nil) (fun _ _ _ _ _ => pe_b) hs) q
theorem sw_setLcIf {y : Str} {py spos : Pos} {D : Ends} (i : Nat) (q : tLc (IW X tg iter) (GB X scope tg) (TB X scope c) (EB X scope elt) (own.map (·.2)) σ H fun v H1 => D.nx (σ.set i (some v)) H1) (hN : X.N.Nodup := by assumption) (ok : BlkOk X.N X.env.scope scope own := by exact blkOk_by (by kernel_rfl)) (hy : X.N[i]? = some y := by rfl) (hyl : X.env.scope.names.lookup y = some .local := by rfl)
    (hsw : swapsWith (.ListComp elt [⟨tg, iter, [c], 0⟩] scope pos) (some (.Name y py)) spos.line X.env = pure true := by exact sw_true rfl rfl rfl (by decide +kernel)) (hc : X.calm = true := by rfl) (hs : ∀ x, foldedSetIterable iter X.env x = pure x := by intro _; rfl) :
    SW X (.Assign [.Name y py] (.ListComp elt [⟨tg, iter, [c], 0⟩] scope pos) spos) D σ H := sw_of (ps_setLc hc hN hy hyl hsw pi_w ok (fun _ _ _ _ _ => pg_b) (fun _ _ _ _ _ => pts_one pt_b) (fun _ _ _ _ _ => pe_b) hs) q
/-! the loop of a comprehension over a list, a tuple, a range -/
theorem lcL {p : Addr} {xs : List V} {tt : TT} {g : TG} {te : TE} {vs : List Nat} (h : EV X iter σ H (.ref p)) (hx : SqL X.K H p xs) (Pv : Addr → Nat → Hp → Prop) (h0 : ∀ D H1, Ex H H1 → H1 D = none → Pv D 0 (upd H1 D (.lst []))) (hl : ∀ D i H', Pv D i H' → SqL X.K H' p xs)
    (hs : ∀ D i x H', xs[i]? = some x → Pv D i H' → g x (wipe σ vs) H' fun σ2 H2 => wipe σ2 vs = wipe σ vs ∧ tt σ2 H2 fun b H3 => if b = true then te σ2 H3 fun y H4 => ∃ acc, H4 D = some (.lst acc) ∧ acc.length < sizeLine ∧ Pv D (i + 1) (upd H4 D (.lst (acc ++ [y]))) else Pv D (i + 1) H3)
    (hd : ∀ D H', Pv D xs.length H' → Q (.ref D) H') : tLc (IW X tg iter) g tt te vs σ H Q := fun pins s I =>
  (pi_list (tg := tg) pe_w).run pins s σ H _ I (h H (Ex.refl H) _ fun H1 e1 => ⟨p, rfl, ⟨xs, Evl.ex_l e1 hx⟩, fun D hD => lc_list (K := X.K) (a := p) (xs := xs) (Pv D) (h0 D H1 e1 hD) (fun i H' _ p => hl D i H' p) (fun i x H' hi p => hs D i x H' hi p) (fun H' p => hd D H' p)⟩)
theorem lcT {p : Addr} {xs : List V} {tt : TT} {g : TG} {te : TE} {vs : List Nat} (h : EV X iter σ H (.ref p)) (hx : SqT X.K H p xs) (Pv : Addr → Nat → Hp → Prop) (h0 : ∀ D H1, Ex H H1 → H1 D = none → Pv D 0 (upd H1 D (.lst []))) (hl : ∀ D i H', Pv D i H' → SqT X.K H' p xs)
    (hs : ∀ D i x H', xs[i]? = some x → Pv D i H' → g x (wipe σ vs) H' fun σ2 H2 => wipe σ2 vs = wipe σ vs ∧ tt σ2 H2 fun b H3 => if b = true then te σ2 H3 fun y H4 => ∃ acc, H4 D = some (.lst acc) ∧ acc.length < sizeLine ∧ Pv D (i + 1) (upd H4 D (.lst (acc ++ [y]))) else Pv D (i + 1) H3)
    (hd : ∀ D H', Pv D xs.length H' → Q (.ref D) H') : tLc (IW X tg iter) g tt te vs σ H Q := fun pins s I =>
  (pi_tup (tg := tg) pe_w).run pins s σ H _ I (h H (Ex.refl H) _ fun H1 e1 => ⟨p, rfl, ⟨xs, Evl.ex_t e1 hx⟩, fun D hD => lc_tup (K := X.K) (a := p) (xs := xs) (Pv D) (h0 D H1 e1 hD) (fun i H' _ p => hl D i H' p) (fun i x H' hi p => hs D i x H' hi p) (fun H' p => hd D H' p)⟩)
/-- over a list that has just been made -/
theorem lcN {xs : List V} {tt : TT} {g : TG} {te : TE} {vs : List Nat} (h : EVL X iter σ H xs) (Pv : Addr → Addr → Nat → Hp → Prop) (h0 : ∀ p D H1, H p = none → Ex H H1 → H1 p = some (.lst xs) → H1 D = none → Pv p D 0 (upd H1 D (.lst []))) (hl : ∀ p D i H', Pv p D i H' → SqL X.K H' p xs)
    (hs : ∀ p D i x H', xs[i]? = some x → Pv p D i H' → g x (wipe σ vs) H' fun σ2 H2 => wipe σ2 vs = wipe σ vs ∧ tt σ2 H2 fun b H3 => if b = true then te σ2 H3 fun y H4 => ∃ acc, H4 D = some (.lst acc) ∧ acc.length < sizeLine ∧ Pv p D (i + 1) (upd H4 D (.lst (acc ++ [y]))) else Pv p D (i + 1) H3)
    (hd : ∀ p D H', Pv p D xs.length H' → Q (.ref D) H') : tLc (IW X tg iter) g tt te vs σ H Q := fun pins s I =>
  (pi_list (tg := tg) pe_w).run pins s σ H _ I (h H (Ex.refl H) _ fun p H1 hp e1 h1 => ⟨p, rfl, ⟨xs, Evl.sq_of h1⟩, fun D hD => lc_list (K := X.K) (a := p) (xs := xs) (Pv p D) (h0 p D H1 hp e1 h1 hD) (fun i H' _ q => hl p D i H' q) (fun i x H' hi q => hs p D i x H' hi q) (fun H' q => hd p D H' q)⟩)
theorem lcR {a : Expr} {p pos' : Pos} {n : Nat} {tt : TT} {g : TG} {te : TE} {vs : List Nat} (hm : X.mg "range" = none) (h : EV X a σ H (.int (n : Int))) (hn : n ≤ 100000) (Pv : Addr → Nat → Hp → Prop) (h0 : ∀ D H1, Ex H H1 → H1 D = none → Pv D 0 (upd H1 D (.lst [])))
    (hs : ∀ D i H', i < n → Pv D i H' → g (.int (i : Int)) (wipe σ vs) H' fun σ2 H2 => wipe σ2 vs = wipe σ vs ∧ tt σ2 H2 fun b H3 => if b = true then te σ2 H3 fun y H4 => ∃ acc, H4 D = some (.lst acc) ∧ acc.length < sizeLine ∧ Pv D (i + 1) (upd H4 D (.lst (acc ++ [y]))) else Pv D (i + 1) H3)
    (hd : ∀ D H', Pv D n H' → Q (.ref D) H') (hg : Gl X "range" := by rfl) (hst : starEach [a] X.env = [(false, eval a X.env)] := by rfl) : tLc (IW X tg (.Call (.Name "range" p) [a] [] pos')) g tt te vs σ H Q := fun pins s I =>
  (pi_range1 (tg := tg) hg hm pa_w hst).run pins s σ H _ I (AVgo (av_cons h av_nil hst) fun H1 e1 => ⟨n, rfl, by omega, by omega, fun D hD => by
    have hn2 : (n : Int).toNat = n := Int.toNat_natCast n
    rw [hn2]
    refine lc_range (lo := 0) (n := n) (Pv D) (h0 D H1 e1 hD) (fun i H' hi p => ?_) (fun H' p => hd D H' p)
    have e0 : (0 : Int) + (i : Int) = (i : Int) := Int.zero_add _
    rw [e0]
    exact hs D i H' hi p⟩)
theorem lcR2 {a b : Expr} {p pos' : Pos} {lo n : Nat} {tt : TT} {g : TG} {te : TE} {vs : List Nat} (hm : X.mg "range" = none) (h : EV X a σ H (.int (lo : Int))) (h' : EV X b σ H (.int (n : Int))) (hn : lo ≤ 100000 ∧ n ≤ 100000) (Pv : Addr → Nat → Hp → Prop) (h0 : ∀ D H1, Ex H H1 → H1 D = none → Pv D 0 (upd H1 D (.lst [])))
    (hs : ∀ D i H', lo + i < n → Pv D i H' → g (.int ((lo + i : Nat) : Int)) (wipe σ vs) H' fun σ2 H2 => wipe σ2 vs = wipe σ vs ∧ tt σ2 H2 fun b H3 => if b = true then te σ2 H3 fun y H4 => ∃ acc, H4 D = some (.lst acc) ∧ acc.length < sizeLine ∧ Pv D (i + 1) (upd H4 D (.lst (acc ++ [y]))) else Pv D (i + 1) H3)
    (hd : ∀ D H', Pv D (n - lo) H' → Q (.ref D) H') (hg : Gl X "range" := by rfl) (hst : starEach [a, b] X.env = [(false, eval a X.env), (false, eval b X.env)] := by rfl) (hst2 : starEach [b] X.env = [(false, eval b X.env)] := by rfl) : tLc (IW X tg (.Call (.Name "range" p) [a, b] [] pos')) g tt te vs σ H Q := fun pins s I =>
  (pi_range2 (tg := tg) hg hm pa_w hst hst2).run pins s σ H _ I (AVgo (av_cons h (av_cons h' av_nil hst2) (by rw [hst2]; exact hst)) fun H1 e1 => ⟨lo, n, rfl, ⟨by omega, by omega, by omega, by omega⟩, fun D hD => by
    have hn2 : ((n : Int) - (lo : Int)).toNat = n - lo := by omega
    rw [hn2]
    refine lc_range (lo := (lo : Int)) (n := n - lo) (Pv D) (h0 D H1 e1 hD) (fun i H' hi p => ?_) (fun H' p => hd D H' p)
    have e0 : (lo : Int) + (i : Int) = ((lo + i : Nat) : Int) := by omega
    rw [e0]
    exact hs D i H' (by omega) p⟩)
/-- a target that takes v and goes on with σ' -/
def GV (X : Cx) (g : Expr) (v : V) (σ : L2.St) (H : Hp) (σ' : L2.St) : Prop := ∀ H1, Ex H H1 → ∀ Q : L2.St → Hp → Prop, (∀ H2, Ex H1 H2 → Q σ' H2) → GW X g v σ H1 Q
theorem gv_name {x : Str} {v : V} (i : Nat) (hN : X.N.Nodup := by assumption) (hi : X.N[i]? = some x := by rfl) (hx : Loc X.env.scope x := by first | exact Or.inl rfl | exact Or.inr rfl) (hf : X.fn x = true ∨ X.env.scope.names.lookup x = some .local := by first | exact .inl rfl | exact .inr rfl) : GV X (.Name x pos) v σ H (σ.set i (some v)) :=
  fun H1 e1 Q q => gw_name i (q H1 (Ex.refl H1)) hN hi hx hf
theorem gv_tup3 {g1 g2 g3 : Expr} {k : Nat} {p : Addr} {a b c : V} {σ1 σ2 σ3 : L2.St} (h : SqT X.K H p [a, b, c]) (h1 : GV X g1 a σ H σ1) (h2 : GV X g2 b σ1 H σ2) (h3 : GV X g3 c σ2 H σ3) (hc : X.calm = true := by rfl) (hn : (assignEach [g1, g2, g3] X.env).length = 3 := by rfl) (hst : (assignEach [g1, g2, g3] X.env).findIdx? (·.1) = none := by rfl)
    (hs1 : (assignEach [g1, g2, g3] X.env).map (·.2) = assign g1 X.env :: (assignEach [g2, g3] X.env).map (·.2) := by rfl) (hs2 : (assignEach [g2, g3] X.env).map (·.2) = assign g2 X.env :: (assignEach [g3] X.env).map (·.2) := by rfl) (hs3 : (assignEach [g3] X.env).map (·.2) = assign g3 X.env :: (assignEach [] X.env).map (·.2) := by rfl) : GV X (.Tuple [g1, g2, g3] k pos) (.ref p) σ H σ3 :=
  fun H1 e1 Q q => gw_tup (n := 3) (Evl.ex_t e1 h) (gws_cons (h1 H1 e1 _ fun H2 e2 => gws_cons (h2 H2 (e1.trans e2) _ fun H3 e3 => gws_cons (h3 H3 ((e1.trans e2).trans e3) _ fun H4 e4 => gws_nil (q H4 ((e2.trans e3).trans e4))) hs3) hs2) hs1) rfl hc hn hst
theorem gv_tup2 {g1 g2 : Expr} {k : Nat} {p : Addr} {a b : V} {σ1 σ2 : L2.St} (h : SqT X.K H p [a, b]) (h1 : GV X g1 a σ H σ1) (h2 : GV X g2 b σ1 H σ2) (hc : X.calm = true := by rfl) (hn : (assignEach [g1, g2] X.env).length = 2 := by rfl) (hst : (assignEach [g1, g2] X.env).findIdx? (·.1) = none := by rfl)
    (hs1 : (assignEach [g1, g2] X.env).map (·.2) = assign g1 X.env :: (assignEach [g2] X.env).map (·.2) := by rfl) (hs2 : (assignEach [g2] X.env).map (·.2) = assign g2 X.env :: (assignEach [] X.env).map (·.2) := by rfl) : GV X (.Tuple [g1, g2] k pos) (.ref p) σ H σ2 :=
  fun H1 e1 Q q => gw_tup (n := 2) (Evl.ex_t e1 h) (gws_cons (h1 H1 e1 _ fun H2 e2 => gws_cons (h2 H2 (e1.trans e2) _ fun H3 e3 => gws_nil (q H3 (e2.trans e3))) hs2) hs1) rfl hc hn hst
/-! pure ones: what comes is (l.filter pf).map g -/
variable {α : Type} {l : List α} {toV : α → V} {pf : α → Bool} {g : α → V} {vs : List Nat} {sg : α → L2.St}
def CPv (H : Hp) (l : List α) (pf : α → Bool) (g : α → V) (D : Addr) (i : Nat) (H' : Hp) : Prop := H D = none ∧ Ex H H' ∧ H' D = some (.lst (((l.take i).filter pf).map g))
theorem take_snoc {i : Nat} {a : α} (h : l[i]? = some a) : l.take (i + 1) = l.take i ++ [a] := by
  rw [List.take_add_one, h]; rfl
theorem cp_yes {D : Addr} {i : Nat} {a : α} {H1 H' : Hp} (p : CPv H l pf g D i H') (hi : l[i]? = some a) (ha : pf a = true) (hz : l.length ≤ 40000) (e : Ex H' H1) : ∃ acc, H1 D = some (.lst acc) ∧ acc.length < sizeLine ∧ CPv H l pf g D (i + 1) (upd H1 D (.lst (acc ++ [g a]))) := by
  obtain ⟨p1, p2, p3⟩ := p
  refine ⟨_, e _ _ p3, ?_, p1, Ex.mut (p2.trans e) p1, ?_⟩
  · rw [List.length_map]
    have h1 := List.length_filter_le pf (l.take i)
    have h2 := List.length_take_le i l
    exact Evl.sz_lt (by have h3 : (l.take i).length ≤ l.length := by rw [List.length_take]; omega
                        omega)
  · rw [upd_same, take_snoc hi, List.filter_append, List.map_append]
    rw [show List.filter pf [a] = [a] by simp [ha]] <;> rfl
theorem cp_no {D : Addr} {i : Nat} {a : α} {H1 H' : Hp} (p : CPv H l pf g D i H') (hi : l[i]? = some a) (ha : pf a = false) (e : Ex H' H1) : CPv H l pf g D (i + 1) H1 := by
  obtain ⟨p1, p2, p3⟩ := p
  refine ⟨p1, p2.trans e, ?_⟩
  rw [take_snoc hi, List.filter_append, show List.filter pf [a] = [] by simp [ha], List.append_nil]
  exact e _ _ p3
theorem map_get {i : Nat} {x : V} (h : (l.map toV)[i]? = some x) : ∃ a, l[i]? = some a ∧ a ∈ l ∧ x = toV a := by
  rw [List.getElem?_map] at h
  cases e : l[i]? with
  | none => rw [e] at h; cases h
  | some a =>
    rw [e] at h
    exact ⟨a, rfl, List.mem_of_getElem? e, (Option.some.inj h).symm⟩
/-- one turn: target, test, element -/
theorem cp_turnIf {D : Addr} {i : Nat} {a : α} {H' : Hp} (p : CPv H l pf g D i H') (hi : l[i]? = some a) (hz : l.length ≤ 40000)
    (hg : ∀ s0 H0 C cl fp, GV (Bk X scope s0 H0 C cl fp) tg (toV a) (wipe σ vs) H (sg a)) (hw : wipe (sg a) vs = wipe σ vs) (ht : ∀ s0 H0 C cl fp, TV (Bk X scope s0 H0 C cl fp) c (sg a) H (pf a)) (he : pf a = true → ∀ s0 H0 C cl fp, EV (Bk X scope s0 H0 C cl fp) elt (sg a) H (g a)) :
    GB X scope tg (toV a) (wipe σ vs) H' fun σ2 H2 => wipe σ2 vs = wipe σ vs ∧ TB X scope c σ2 H2 fun b H3 => if b = true then EB X scope elt σ2 H3 fun y H4 => ∃ acc, H4 D = some (.lst acc) ∧ acc.length < sizeLine ∧ CPv H l pf g D (i + 1) (upd H4 D (.lst (acc ++ [y]))) else CPv H l pf g D (i + 1) H3 := fun s0 H0 C cl fp =>
  hg s0 H0 C cl fp H' p.2.1 _ fun H2 e2 => ⟨hw, fun s0 H0 C cl fp => ht s0 H0 C cl fp H2 (p.2.1.trans e2) _ fun H3 e3 => by
    cases ha : pf a with
    | true =>
      show EB X scope elt (sg a) H3 _
      exact fun s0 H0 C cl fp => he ha s0 H0 C cl fp H3 ((p.2.1.trans e2).trans e3) _ fun H4 e4 => cp_yes p hi ha hz ((e2.trans e3).trans e4)
    | false =>
      show CPv H l pf g D (i + 1) H3
      exact cp_no p hi ha (e2.trans e3)⟩
theorem cp_turn {D : Addr} {i : Nat} {a : α} {H' : Hp} (p : CPv H l (fun _ => true) g D i H') (hi : l[i]? = some a) (hz : l.length ≤ 40000)
    (hg : ∀ s0 H0 C cl fp, GV (Bk X scope s0 H0 C cl fp) tg (toV a) (wipe σ vs) H (sg a)) (hw : wipe (sg a) vs = wipe σ vs) (he : ∀ s0 H0 C cl fp, EV (Bk X scope s0 H0 C cl fp) elt (sg a) H (g a)) :
    GB X scope tg (toV a) (wipe σ vs) H' fun σ2 H2 => wipe σ2 vs = wipe σ vs ∧ tYes σ2 H2 fun b H3 => if b = true then EB X scope elt σ2 H3 fun y H4 => ∃ acc, H4 D = some (.lst acc) ∧ acc.length < sizeLine ∧ CPv H l (fun _ => true) g D (i + 1) (upd H4 D (.lst (acc ++ [y]))) else CPv H l (fun _ => true) g D (i + 1) H3 := fun s0 H0 C cl fp =>
  hg s0 H0 C cl fp H' p.2.1 _ fun H2 e2 => ⟨hw, iteT (B := CPv H l (fun _ => true) g D (i + 1) H2) fun s0 H0 C cl fp => he s0 H0 C cl fp H2 (p.2.1.trans e2) _ fun H4 e4 => cp_yes p hi rfl hz (e2.trans e4)⟩
theorem cp_done {D : Addr} {n : Nat} {H' H0 : Hp} {Q : VK} (p : CPv H l pf g D n H') (hn : l.length ≤ n) (q : ∀ p H2, H p = none → Ex H H2 → H2 p = some (.lst ((l.filter pf).map g)) → Q (.ref p) H2) : Q (.ref D) H' := by
  obtain ⟨p1, p2, p3⟩ := p
  rw [List.take_of_length_le hn] at p3
  exact q D H' p1 p2 p3
/-- over a list or tuple that stands -/
theorem evl_compIf {p : Addr} (own : List (Str × Nat)) (h : EV X iter σ H (.ref p)) (hx : Sq X.K H p (l.map toV)) (hz : l.length ≤ 40000) (sg : α → L2.St)
    (hg : ∀ a ∈ l, ∀ s0 H0 C cl fp, GV (Bk X scope s0 H0 C cl fp) tg (toV a) (wipe σ (own.map (·.2))) H (sg a)) (hw : ∀ a, wipe (sg a) (own.map (·.2)) = wipe σ (own.map (·.2))) (ht : ∀ a ∈ l, ∀ s0 H0 C cl fp, TV (Bk X scope s0 H0 C cl fp) c (sg a) H (pf a)) (he : ∀ a ∈ l, pf a = true → ∀ s0 H0 C cl fp, EV (Bk X scope s0 H0 C cl fp) elt (sg a) H (g a))
    (hN : X.N.Nodup := by assumption) (ok : BlkOk X.N X.env.scope scope own := by exact blkOk_by (by kernel_rfl)) (hc : X.calm = true := by rfl) (hs : ∀ x, foldedSetIterable iter X.env x = pure x := by intro _; rfl) :
    EVL X (.ListComp elt [⟨tg, iter, [c], 0⟩] scope pos) σ H ((l.filter pf).map g) := fun H0 e0 Q q => by
  have up : ∀ {te : TE} {σ : L2.St} {v : V}, Evl.Ev te σ H v → Evl.Ev te σ H0 v := fun h => Evl.Ev.mono e0 h
  have hg' : ∀ a ∈ l, ∀ s0 H0' C cl fp, GV (Bk X scope s0 H0' C cl fp) tg (toV a) (wipe σ (own.map (·.2))) H0 (sg a) := fun a ha s0 H0' C cl fp H1 e1 Q q => hg a ha s0 H0' C cl fp H1 (e0.trans e1) Q q
  refine ew_lcIf (own := own) ?_ hN ok hc hs
  rcases hx with hx | hx
  · exact lcL (up h) (Evl.ex_l e0 hx) (fun D i H' => CPv H0 l pf g D i H') (fun D H1 e1 hD => ⟨Evl.fresh_back e1 hD, Ex.mut e1 (Evl.fresh_back e1 hD), upd_same⟩) (fun D i H' p => Evl.ex_l (e0.trans p.2.1) hx) (fun D i x H' hi p => by
      obtain ⟨a, h1, h2, rfl⟩ := map_get hi
      exact cp_turnIf p h1 hz (hg' a h2) (hw a) (fun s0 H0 C cl fp => Evl.EvT.mono e0 (ht a h2 s0 H0 C cl fp)) (fun hp s0 H0 C cl fp => up (he a h2 hp s0 H0 C cl fp))) (fun D H' p => cp_done (H0 := H0) p (by rw [List.length_map]; exact Nat.le_refl _) q)
  · exact lcT (up h) (Evl.ex_t e0 hx) (fun D i H' => CPv H0 l pf g D i H') (fun D H1 e1 hD => ⟨Evl.fresh_back e1 hD, Ex.mut e1 (Evl.fresh_back e1 hD), upd_same⟩) (fun D i H' p => Evl.ex_t (e0.trans p.2.1) hx) (fun D i x H' hi p => by
      obtain ⟨a, h1, h2, rfl⟩ := map_get hi
      exact cp_turnIf p h1 hz (hg' a h2) (hw a) (fun s0 H0 C cl fp => Evl.EvT.mono e0 (ht a h2 s0 H0 C cl fp)) (fun hp s0 H0 C cl fp => up (he a h2 hp s0 H0 C cl fp))) (fun D H' p => cp_done (H0 := H0) p (by rw [List.length_map]; exact Nat.le_refl _) q)
theorem evl_comp {p : Addr} (own : List (Str × Nat)) (h : EV X iter σ H (.ref p)) (hx : Sq X.K H p (l.map toV)) (hz : l.length ≤ 40000) (sg : α → L2.St)
    (hg : ∀ a ∈ l, ∀ s0 H0 C cl fp, GV (Bk X scope s0 H0 C cl fp) tg (toV a) (wipe σ (own.map (·.2))) H (sg a)) (hw : ∀ a, wipe (sg a) (own.map (·.2)) = wipe σ (own.map (·.2))) (he : ∀ a ∈ l, ∀ s0 H0 C cl fp, EV (Bk X scope s0 H0 C cl fp) elt (sg a) H (g a))
    (hN : X.N.Nodup := by assumption) (ok : BlkOk X.N X.env.scope scope own := by exact blkOk_by (by kernel_rfl)) (hc : X.calm = true := by rfl) (hs : ∀ x, foldedSetIterable iter X.env x = pure x := by intro _; rfl) :
    EVL X (.ListComp elt [⟨tg, iter, [], 0⟩] scope pos) σ H (l.map g) := fun H0 e0 Q q => by
  have up : ∀ {te : TE} {σ : L2.St} {v : V}, Evl.Ev te σ H v → Evl.Ev te σ H0 v := fun h => Evl.Ev.mono e0 h
  have hg' : ∀ a ∈ l, ∀ s0 H0' C cl fp, GV (Bk X scope s0 H0' C cl fp) tg (toV a) (wipe σ (own.map (·.2))) H0 (sg a) := fun a ha s0 H0' C cl fp H1 e1 Q q => hg a ha s0 H0' C cl fp H1 (e0.trans e1) Q q
  have fl : l.filter (fun _ => true) = l := List.filter_eq_self.mpr fun _ _ => rfl
  have q' : ∀ p H2, H0 p = none → Ex H0 H2 → H2 p = some (.lst ((l.filter fun _ => true).map g)) → Q (.ref p) H2 := by
    rw [fl]; exact q
  refine ew_lc (own := own) ?_ hN ok hc hs
  rcases hx with hx | hx
  · exact lcL (up h) (Evl.ex_l e0 hx) (fun D i H' => CPv H0 l (fun _ => true) g D i H') (fun D H1 e1 hD => ⟨Evl.fresh_back e1 hD, Ex.mut e1 (Evl.fresh_back e1 hD), upd_same⟩) (fun D i H' p => Evl.ex_l (e0.trans p.2.1) hx) (fun D i x H' hi p => by
      obtain ⟨a, h1, h2, rfl⟩ := map_get hi
      exact cp_turn p h1 hz (hg' a h2) (hw a) (fun s0 H0 C cl fp => up (he a h2 s0 H0 C cl fp))) (fun D H' p => cp_done (H0 := H0) p (by rw [List.length_map]; exact Nat.le_refl _) q')
  · exact lcT (up h) (Evl.ex_t e0 hx) (fun D i H' => CPv H0 l (fun _ => true) g D i H') (fun D H1 e1 hD => ⟨Evl.fresh_back e1 hD, Ex.mut e1 (Evl.fresh_back e1 hD), upd_same⟩) (fun D i H' p => Evl.ex_t (e0.trans p.2.1) hx) (fun D i x H' hi p => by
      obtain ⟨a, h1, h2, rfl⟩ := map_get hi
      exact cp_turn p h1 hz (hg' a h2) (hw a) (fun s0 H0 C cl fp => up (he a h2 s0 H0 C cl fp))) (fun D H' p => cp_done (H0 := H0) p (by rw [List.length_map]; exact Nat.le_refl _) q')
end
section
variable {X : Cx} {scope : Scope} {σ : L2.St} {H : Hp} {pos : Pos} {elt tg iter c : Expr} {Q : VK}
theorem range_get {n i : Nat} (hi : i < n) : (List.range n)[i]? = some i := by rw [List.getElem?_range hi]
/-- over range(n) -/
theorem evl_compRIf {a : Expr} {p pos' : Pos} {n : Nat} {pf : Nat → Bool} {g : Nat → V} (own : List (Str × Nat)) (hm : X.mg "range" = none) (h : EV X a σ H (.int (n : Int))) (hn : n ≤ 40000) (sg : Nat → L2.St)
    (hg : ∀ i, i < n → ∀ s0 H0 C cl fp, GV (Bk X scope s0 H0 C cl fp) tg (.int (i : Int)) (wipe σ (own.map (·.2))) H (sg i)) (hw : ∀ a, wipe (sg a) (own.map (·.2)) = wipe σ (own.map (·.2))) (ht : ∀ i, i < n → ∀ s0 H0 C cl fp, TV (Bk X scope s0 H0 C cl fp) c (sg i) H (pf i)) (he : ∀ i, i < n → pf i = true → ∀ s0 H0 C cl fp, EV (Bk X scope s0 H0 C cl fp) elt (sg i) H (g i))
    (hN : X.N.Nodup := by assumption) (ok : BlkOk X.N X.env.scope scope own := by exact blkOk_by (by kernel_rfl)) (hgl : Gl X "range" := by rfl) (hst : starEach [a] X.env = [(false, eval a X.env)] := by rfl) (hc : X.calm = true := by rfl) (hs : ∀ x, foldedSetIterable (.Call (.Name "range" p) [a] [] pos') X.env x = pure x := by intro _; rfl) :
    EVL X (.ListComp elt [⟨tg, .Call (.Name "range" p) [a] [] pos', [c], 0⟩] scope pos) σ H (((List.range n).filter pf).map g) := fun H0 e0 Q q => by
  have up : ∀ {te : TE} {σ : L2.St} {v : V}, Evl.Ev te σ H v → Evl.Ev te σ H0 v := fun h => Evl.Ev.mono e0 h
  refine ew_lcIf (own := own) ?_ hN ok hc hs
  exact lcR hm (up h) (by omega) (fun D i H' => CPv H0 (List.range n) pf g D i H') (fun D H1 e1 hD => ⟨Evl.fresh_back e1 hD, Ex.mut e1 (Evl.fresh_back e1 hD), upd_same⟩) (fun D i H' hi p => cp_turnIf (toV := fun i : Nat => V.int (i : Int)) p (range_get hi) (by rw [List.length_range]; exact hn) (fun s0 H0' C cl fp H1 e1 Q q => hg i hi s0 H0' C cl fp H1 (e0.trans e1) Q q) (hw i) (fun s0 H0 C cl fp => Evl.EvT.mono e0 (ht i hi s0 H0 C cl fp)) (fun hp s0 H0 C cl fp => up (he i hi hp s0 H0 C cl fp))) (fun D H' p => cp_done (H0 := H0) p (by rw [List.length_range]; exact Nat.le_refl _) q) hgl hst
/-- without a test -/
theorem evl_compR {a : Expr} {p pos' : Pos} {n : Nat} {g : Nat → V} (own : List (Str × Nat)) (hm : X.mg "range" = none) (h : EV X a σ H (.int (n : Int))) (hn : n ≤ 40000) (sg : Nat → L2.St)
    (hg : ∀ i, i < n → ∀ s0 H0 C cl fp, GV (Bk X scope s0 H0 C cl fp) tg (.int (i : Int)) (wipe σ (own.map (·.2))) H (sg i)) (hw : ∀ a, wipe (sg a) (own.map (·.2)) = wipe σ (own.map (·.2))) (he : ∀ i, i < n → ∀ s0 H0 C cl fp, EV (Bk X scope s0 H0 C cl fp) elt (sg i) H (g i))
    (hN : X.N.Nodup := by assumption) (ok : BlkOk X.N X.env.scope scope own := by exact blkOk_by (by kernel_rfl)) (hgl : Gl X "range" := by rfl) (hst : starEach [a] X.env = [(false, eval a X.env)] := by rfl) (hc : X.calm = true := by rfl) (hs : ∀ x, foldedSetIterable (.Call (.Name "range" p) [a] [] pos') X.env x = pure x := by intro _; rfl) :
    EVL X (.ListComp elt [⟨tg, .Call (.Name "range" p) [a] [] pos', [], 0⟩] scope pos) σ H ((List.range n).map g) := fun H0 e0 Q q => by
  have up : ∀ {te : TE} {σ : L2.St} {v : V}, Evl.Ev te σ H v → Evl.Ev te σ H0 v := fun h => Evl.Ev.mono e0 h
  have fl : (List.range n).filter (fun _ => true) = List.range n := List.filter_eq_self.mpr fun _ _ => rfl
  have q' : ∀ p H2, H0 p = none → Ex H0 H2 → H2 p = some (.lst (((List.range n).filter fun _ => true).map g)) → Q (.ref p) H2 := by
    rw [fl]; exact q
  refine ew_lc (own := own) ?_ hN ok hc hs
  exact lcR hm (up h) (by omega) (fun D i H' => CPv H0 (List.range n) (fun _ => true) g D i H') (fun D H1 e1 hD => ⟨Evl.fresh_back e1 hD, Ex.mut e1 (Evl.fresh_back e1 hD), upd_same⟩) (fun D i H' hi p => cp_turn (toV := fun i : Nat => V.int (i : Int)) p (range_get hi) (by rw [List.length_range]; exact hn) (fun s0 H0' C cl fp H1 e1 Q q => hg i hi s0 H0' C cl fp H1 (e0.trans e1) Q q) (hw i) (fun s0 H0 C cl fp => up (he i hi s0 H0 C cl fp))) (fun D H' p => cp_done (H0 := H0) p (by rw [List.length_range]; exact Nat.le_refl _) q') hgl hst
theorem evl_compR2 {a b : Expr} {p pos' : Pos} {lo n : Nat} {g : Nat → V} (own : List (Str × Nat)) (hm : X.mg "range" = none) (h : EV X a σ H (.int (lo : Int))) (h' : EV X b σ H (.int (n : Int))) (hn : lo ≤ 40000 ∧ n ≤ 40000) (sg : Nat → L2.St)
    (hg : ∀ i, lo + i < n → ∀ s0 H0 C cl fp, GV (Bk X scope s0 H0 C cl fp) tg (.int ((lo + i : Nat) : Int)) (wipe σ (own.map (·.2))) H (sg i)) (hw : ∀ a, wipe (sg a) (own.map (·.2)) = wipe σ (own.map (·.2))) (he : ∀ i, lo + i < n → ∀ s0 H0 C cl fp, EV (Bk X scope s0 H0 C cl fp) elt (sg i) H (g i))
    (hN : X.N.Nodup := by assumption) (ok : BlkOk X.N X.env.scope scope own := by exact blkOk_by (by kernel_rfl)) (hgl : Gl X "range" := by rfl) (hst : starEach [a, b] X.env = [(false, eval a X.env), (false, eval b X.env)] := by rfl) (hst2 : starEach [b] X.env = [(false, eval b X.env)] := by rfl) (hc : X.calm = true := by rfl) (hs : ∀ x, foldedSetIterable (.Call (.Name "range" p) [a, b] [] pos') X.env x = pure x := by intro _; rfl) :
    EVL X (.ListComp elt [⟨tg, .Call (.Name "range" p) [a, b] [] pos', [], 0⟩] scope pos) σ H ((List.range (n - lo)).map g) := fun H0 e0 Q q => by
  have up : ∀ {te : TE} {σ : L2.St} {v : V}, Evl.Ev te σ H v → Evl.Ev te σ H0 v := fun h => Evl.Ev.mono e0 h
  have fl : (List.range (n - lo)).filter (fun _ => true) = List.range (n - lo) := List.filter_eq_self.mpr fun _ _ => rfl
  have q' : ∀ p H2, H0 p = none → Ex H0 H2 → H2 p = some (.lst (((List.range (n - lo)).filter fun _ => true).map g)) → Q (.ref p) H2 := by
    rw [fl]; exact q
  refine ew_lc (own := own) ?_ hN ok hc hs
  exact lcR2 hm (up h) (up h') (by omega) (fun D i H' => CPv H0 (List.range (n - lo)) (fun _ => true) g D i H') (fun D H1 e1 hD => ⟨Evl.fresh_back e1 hD, Ex.mut e1 (Evl.fresh_back e1 hD), upd_same⟩) (fun D i H' hi p => cp_turn (toV := fun i : Nat => V.int ((lo + i : Nat) : Int)) p (range_get (by omega)) (by rw [List.length_range]; omega) (fun s0 H0' C cl fp H1 e1 Q q => hg i hi s0 H0' C cl fp H1 (e0.trans e1) Q q) (hw i) (fun s0 H0 C cl fp => up (he i hi s0 H0 C cl fp))) (fun D H' p => cp_done (H0 := H0) p (by rw [List.length_range]; exact Nat.le_refl _) q') hgl hst hst2
end
/-! ### isinstance -/
section
variable {X : Cx} {σ : L2.St} {H : Hp} {pos : Pos} {a b c : Expr} {v : V}
theorem ev_bltn {x : Str} {u : Value} (hm : X.mg x = none) (r : RelV v u) (hv : bootBuiltins x = some u := by decide +kernel) (hg : Gl X x := by rfl) (hn : x ≠ "__name__" := by decide) (hd : (x == ("__debug__" : Str)) = false := by decide) : EV X (.Name x pos) σ H v := ev_of (pe_bltn hg hm hv r hn hd) Evl.ev_c
theorem ev_isi {p p2 : Pos} {x : Str} {T t : String} {k : Bool} (hi : X.mg "isinstance" = none) (hx : X.mg x = none) (ha : EV X a σ H v) (ht : ∀ H1, Ex H H1 → TyX X.K H1 v (.type t)) (hk : kitB t T = some k := by decide +kernel) (hv : bootBuiltins x = some (.type T) := by decide +kernel) (hg : Gl X "isinstance" := by rfl) (hgx : Gl X x := by rfl) (hn : x ≠ "__name__" := by decide) (hd : (x == ("__debug__" : Str)) = false := by decide)
    (h1 : starEach [.Name x p2] X.env = (false, eval (.Name x p2) X.env) :: starEach [] X.env := by rfl) (h2 : starEach [a, .Name x p2] X.env = (false, eval a X.env) :: starEach [.Name x p2] X.env := by rfl) (hpl : (backTo pos (starEach [.Name x p2] X.env)).any (·.1) = false := by rfl) : EV X (.Call (.Name "isinstance" p) [a, .Name x p2] [] pos) σ H (.bl k) :=
  ev_B call_isi hi (av_cons ha (av_cons (ev_bltn (v := .ty T) hx rfl hv hgx hn hd) av_nil h1) h2) (fun H1 e1 Q q => ⟨v, .ty T, _, _, k, rfl, .ty T, ht H1 e1, kit_ty hk, q H1 (Ex.refl H1)⟩) (by decide +kernel) hg (by decide) (by decide) h2 hpl
/-- isinstance(v, (list, tuple)) -/
theorem ev_isiLT {p p2 p3 pt : Pos} {k : Nat} {t : String} {r : Bool} (hi : X.mg "isinstance" = none) (hx : X.mg "list" = none) (hy : X.mg "tuple" = none) (ha : EV X a σ H v) (ht : ∀ H1, Ex H H1 → TyX X.K H1 v (.type t)) (hk : (kitB t "list" = some true ∧ r = true) ∨ (kitB t "list" = some false ∧ kitB t "tuple" = some r)) (hg : Gl X "isinstance" := by rfl) (hg1 : Gl X "list" := by rfl) (hg2 : Gl X "tuple" := by rfl)
    (h1 : starEach [.Name "tuple" p3] X.env = (false, eval (.Name "tuple" p3) X.env) :: starEach [] X.env := by rfl) (h2 : starEach [.Name "list" p2, .Name "tuple" p3] X.env = (false, eval (.Name "list" p2) X.env) :: starEach [.Name "tuple" p3] X.env := by rfl)
    (h3 : starEach [.Tuple [.Name "list" p2, .Name "tuple" p3] k pt] X.env = (false, eval (.Tuple [.Name "list" p2, .Name "tuple" p3] k pt) X.env) :: starEach [] X.env := by rfl) (h4 : starEach [a, .Tuple [.Name "list" p2, .Name "tuple" p3] k pt] X.env = (false, eval a X.env) :: starEach [.Tuple [.Name "list" p2, .Name "tuple" p3] k pt] X.env := by rfl)
    (hpl : (backTo pos (starEach [.Tuple [.Name "list" p2, .Name "tuple" p3] k pt] X.env)).any (·.1) = false := by rfl) : EV X (.Call (.Name "isinstance" p) [a, .Tuple [.Name "list" p2, .Name "tuple" p3] k pt] [] pos) σ H (.bl r) := fun H1 e1 Q q =>
  ew_B call_isiT hi (aw_cons (ha H1 e1 _ fun H2 e2 => aw_cons (evu_tup (av_cons (ev_bltn (v := .ty "list") (H := H) hx rfl (by decide +kernel) hg1) (av_cons (ev_bltn (v := .ty "tuple") hy rfl (by decide +kernel) hg2) av_nil h1) h2) (by decide) H2 (e1.trans e2) _ fun tp H3 _ e3 htp => aw_nil ⟨v, tp, _, _, _, r, rfl, htp, .cons (.ty "list") (.cons (.ty "tuple") .nil), ht H3 ((e1.trans e2).trans e3), by
    rcases hk with ⟨k1, k2⟩ | ⟨k1, k2⟩
    · exact kitAny_cons (kit_ty k1) (fun z => by cases z) (fun _ => k2)
    · exact kitAny_cons (kit_ty k1) (fun _ => kitAny_cons (kit_ty k2) (fun z => by subst z; exact kitAny_nil) (fun z => z)) (fun z => by cases z), q H3 (e2.trans e3)⟩) h3) h4) (by decide +kernel) hg (by decide) (by decide) h4 hpl
end
end Cut

namespace Cut
open PySem PySem.Spec PyProof.Rows L2 Evl
/-! ### amounts -/
section
variable {X : Cx} {σ : L2.St} {H : Hp} {pos : Pos} {a b c : Expr} {i j : Int} {st : Stmt} {sts : List Stmt} {D : Ends}
theorem ev_fdivW (ha : EV X a σ H (.int i)) (hb : EV X b σ H (.int j)) (hc : CDivW i j) : EV X (.BinOp a .FloorDiv b pos) σ H (.int (i / j)) := ev_of (pe_op op_fdivW pe_w pe_w) (Evl.ev_op ha hb (Evl.rv_I hc))
theorem tyS {K : PySem.W.Frag} {p : Addr} {xs : List V} (h : Sq K H p xs) : ∃ t, (t = "list" ∨ t = "tuple") ∧ ∀ H1, Ex H H1 → TyX K H1 (.ref p) (.type t) := by
  rcases h with h | h
  · refine ⟨"list", .inl rfl, fun H1 e1 => ?_⟩
    rcases Evl.ex_l e1 h with (h | ⟨o, h⟩) | ⟨o, its, n, h, hc, _⟩
    · exact .base (.lst h)
    · exact .base (.frz h)
    · exact .kList h hc
  · refine ⟨"tuple", .inr rfl, fun H1 e1 => ?_⟩
    rcases Evl.ex_t e1 h with (h | ⟨o, h⟩) | ⟨o, its, n, h, hc, _⟩
    · exact .base (.tup h)
    · exact .fTuple h
    · exact .kTuple h hc
theorem Sq.mono {K : PySem.W.Frag} {H' : Hp} {p : Addr} {xs : List V} (h : Sq K H p xs) (e : Ex H H') : Sq K H' p xs := h.elim (fun h => .inl (Evl.ex_l e h)) fun h => .inr (Evl.ex_t e h)
/-- a loop over a list or tuple -/
theorem sw_forS {tg iter : Expr} {p : Addr} {xs : List V} (hp : PassesOwn (model X.prog X.w) X.A X.env X.xe) (h : EV X iter σ H (.ref p)) (hx : Sq X.K H p xs) (Pv : Nat → L2.St → Hp → Prop) (h0 : ∀ H1, Ex H H1 → Pv 0 σ H1) (hl : ∀ i σ' H', Pv i σ' H' → Ex H H')
    (hs : ∀ i x σ' H', xs[i]? = some x → Pv i σ' H' → GW X tg x σ' H' fun σ2 H2 => BW X sts { D with nx := Pv (i + 1), ct := Pv (i + 1), bk := D.nx } σ2 H2) (hd : ∀ σ' H', Pv xs.length σ' H' → D.nx σ' H') (hc : X.calm = true := by rfl) (hf : ∀ x, foldedSetIterable iter X.env x = pure x := by intro _; rfl) :
    SW X (.For tg iter sts [] pos) D σ H := by
  rcases hx with hx | hx
  · exact sw_forL hp h hx Pv h0 (fun i σ' H' _ p => Evl.ex_l (hl i σ' H' p) hx) hs hd hc hf
  · exact sw_forT hp h hx Pv h0 (fun i σ' H' _ p => Evl.ex_t (hl i σ' H' p) hx) hs hd hc hf
theorem sw_ifF {c : Expr} {sts' : List Stmt} (h : TV X c σ H false) (q : ∀ H1, Ex H H1 → BW X sts' D σ H1) : SW X (.If c sts sts' pos) D σ H := sw_ifV h (fun z => nomatch z) fun _ => q
theorem sw_ifT {c : Expr} {sts' : List Stmt} (h : TV X c σ H true) (q : ∀ H1, Ex H H1 → BW X sts D σ H1) : SW X (.If c sts sts' pos) D σ H := sw_ifV h (fun _ => q) fun z => nomatch z
theorem atI0 {x : V} {r : List V} : atI (x :: r) 0 = some x := atI_nat (j := 0) rfl
theorem atI1 {x y : V} {r : List V} : atI (x :: y :: r) 1 = some y := atI_nat (j := 1) rfl
theorem atI2 {x y z : V} {r : List V} : atI (x :: y :: z :: r) 2 = some z := atI_nat (j := 2) rfl
end
/-- an amount as it may be handed in: a list will do -/
def AmS (K : PySem.W.Frag) (H : Hp) (v : V) (m : Nat) : Prop := ∃ p, v = .ref p ∧ Sq K H p [.int (loA m : Nat), .int (loB m : Nat)]
theorem Amt.s {K : PySem.W.Frag} {H : Hp} {v : V} {m : Nat} (h : Amt K H v m) : AmS K H v m := by
  obtain ⟨p, h1, h2⟩ := h
  exact ⟨p, h1, .inr h2.sq⟩
theorem AmS.mono {K : PySem.W.Frag} {H H' : Hp} {v : V} {m : Nat} (h : AmS K H v m) (e : Ex H H') : AmS K H' v m := by
  obtain ⟨p, h1, h2⟩ := h
  exact ⟨p, h1, h2.mono e⟩
section
variable {P : Program} {w : World} {K : PySem.W.Frag} {mg : Str → Option Value} {base : Heap}
def spWhole : Sp := spV fun vs _ v => ∃ t l m : Int, vs = [.int t, .int l, .int m] ∧ v = .bl (decide (l ≤ t) && decide (t ≤ m))
/-! is_whole: slots 0 thing, 1 least, 2 most -/
theorem sc_is_whole : FnScope ["thing", "least", "most"] ["thing", "least", "most"] (defScope s_is_whole) := ⟨rfl, rfl, rfl, by decide +kernel, rfl, by decide +kernel, by decide +kernel⟩
theorem ok_is_whole (B : Blt K mg) (D : DefAt K mg "is_whole" s_is_whole) : Has P w K mg base 1 "is_whole" ["thing", "least", "most"] spWhole := by
  refine has_of (k := 0) D sc_is_whole (fun _ _ _ _ _ _ us hl => match us, hl with | [_, _, _], _ => rfl) (fun vs H Q E h => by
    obtain ⟨_, ⟨t, l, m, rfl, _⟩, _⟩ := h
    rfl) ?_
  intro f cdv A outer s H0 H vs Q E E0 hr h
  obtain ⟨v, ⟨t, l, m, rfl, rfl⟩, q⟩ := h
  refine bw_one (sw_ret (EVgo (ev_and (ev_isi (t := "int") (T := "int") (k := true) B.b_isinstance B.b_int (ev_name 0) (fun _ _ => .base (.int t))) fun _ => ev_and (ev_not (ev_isi (t := "int") (T := "bool") (k := false) B.b_isinstance B.b_bool (ev_name 0) (fun _ _ => .base (.int t)))) fun _ => ev_one (ev_le_le (ev_name 1) (ev_name 0) (ev_name 2))) fun H1 e1 => q H1 e1))
def spRow (K : PySem.W.Frag) : Sp := spV fun vs H v => ∃ x, vs = [x] ∧ ((∃ p xs, x = .ref p ∧ Sq K H p xs ∧ v = .bl true) ∨ (∃ i, x = .int i ∧ v = .bl false))
/-! is_row: slots 0 thing -/
theorem sc_is_row : FnScope ["thing"] ["thing"] (defScope s_is_row) := ⟨rfl, rfl, rfl, by decide +kernel, rfl, by decide +kernel, by decide +kernel⟩
theorem ok_is_row (B : Blt K mg) (D : DefAt K mg "is_row" s_is_row) : Has P w K mg base 1 "is_row" ["thing"] (spRow K) := by
  refine has_of (k := 0) D sc_is_row (fun _ _ _ _ _ _ us hl => match us, hl with | [_], _ => rfl) (fun vs H Q E h => by
    obtain ⟨_, ⟨x, rfl, _⟩, _⟩ := h
    rfl) ?_
  intro f cdv A outer s H0 H vs Q E E0 hr h
  obtain ⟨v, ⟨x, rfl, h⟩, q⟩ := h
  rcases h with ⟨p, xs, rfl, hx, rfl⟩ | ⟨i, rfl, rfl⟩
  · obtain ⟨t, ht, hy⟩ := tyS hx
    refine bw_one (sw_ret (EVgo (ev_isiLT (t := t) (r := true) B.b_isinstance B.b_list B.b_tuple (ev_name 0) hy ?_) fun H1 e1 => q H1 e1))
    rcases ht with rfl | rfl
    · exact .inl ⟨by decide +kernel, rfl⟩
    · exact .inr ⟨by decide +kernel, by decide +kernel⟩
  · exact bw_one (sw_ret (EVgo (ev_isiLT (t := "int") (r := false) B.b_isinstance B.b_list B.b_tuple (ev_name 0) (fun _ _ => .base (.int i)) (.inr ⟨by decide +kernel, by decide +kernel⟩)) fun H1 e1 => q H1 e1))
def spGcd : Sp := spV fun vs _ v => ∃ a b : Nat, vs = [.int a, .int b] ∧ v = .int (Nat.gcd a b : Nat)
/-! divisor: slots 0 one, 1 other -/
theorem sc_divisor : FnScope ["one", "other"] ["one", "other"] (defScope s_divisor) := ⟨rfl, rfl, rfl, by decide +kernel, rfl, by decide +kernel, by decide +kernel⟩
theorem ok_divisor (D : DefAt K mg "divisor" s_divisor) : Has P w K mg base 1 "divisor" ["one", "other"] spGcd := by
  refine has_of (k := 0) D sc_divisor (fun _ _ _ _ _ _ us hl => match us, hl with | [_, _], _ => rfl) (fun vs H Q E h => by
    obtain ⟨_, ⟨a, b, rfl, _⟩, _⟩ := h
    rfl) ?_
  intro f cdv A outer s H0 H vs Q E E0 hr h
  obtain ⟨v, ⟨a, b, rfl, rfl⟩, q⟩ := h
  have nd := (sc_divisor).nd
  refine bw_cons (sw_while PassesOwn.never (fun σ H' => ∃ c d : Nat, σ = [some (.int c), some (.int d)] ∧ Nat.gcd c d = Nat.gcd a b ∧ Ex H H') (fun σ _ => match σ with | [_, some (.int d)] => d.toNat | _ => 0) ⟨a, b, rfl, rfl, Ex.refl H⟩ ?_)
  rintro σ H1 ⟨c, d, rfl, hg, e1⟩
  refine TVgo (tv_gt (ev_name 1) ev_int) fun H2 e2 => ?_
  refine ite2 (fun hd => ?_) (fun hd => ?_)
  · have hd : 0 < d := by have := of_decide_eq_true hd; omega
    refine bw_one (sw_par (i := 0) (j := 1) (AVgo (av_cons (ev_name 1) (av_cons (ev_mod (ev_name 0) (ev_name 1) (by omega)) av_nil)) fun H3 e3 => ⟨_, _, rfl, ⟨d, c % d, rfl, ?_, (e1.trans e2).trans e3⟩, ?_⟩))
    · rw [← hg, Nat.gcd_comm c d, Nat.gcd_rec d c, Nat.gcd_comm]
    · show (c % d : Int).toNat < (d : Int).toNat
      have := Nat.mod_lt c hd
      omega
  · have hd : d = 0 := by
      have : ¬ (0 < (d : Int)) := fun z => hd (decide_eq_true z)
      omega
    subst hd
    refine bw_one (sw_ret (EVgo (ev_name 0) fun H3 e3 => ?_))
    rw [← hg, Nat.gcd_zero_right] at q
    exact q _ ((e1.trans e2).trans e3)
/-- least terms: a new tuple -/
def spLeast : Sp := fun vs H Q _ => ∃ x y : Nat, vs = [.int x, .int y] ∧ (0 < y ∧ y < 2 ^ 60) ∧ ∀ p H1, Ex H H1 → H1 p = some (.tup [.int ((x / Nat.gcd x y : Nat) : Int), .int ((y / Nat.gcd x y : Nat) : Int)]) → Q (.ref p) H1
/-! in_least_terms: slots 0 above, 1 below, 2 by -/
theorem sc_in_least_terms : FnScope ["above", "below", "by"] ["above", "below"] (defScope s_in_least_terms) := ⟨rfl, rfl, rfl, by decide +kernel, rfl, by decide +kernel, by decide +kernel⟩
theorem ok_in_least_terms (D : DefAt K mg "in_least_terms" s_in_least_terms) (hg : Has P w K mg base 1 "divisor" ["one", "other"] spGcd) : Has P w K mg base 2 "in_least_terms" ["above", "below"] spLeast := by
  refine has_of (k := 1) D sc_in_least_terms (fun _ _ _ _ _ _ us hl => match us, hl with | [_, _], _ => rfl) (fun vs H Q E h => by
    obtain ⟨x, y, rfl, _⟩ := h
    rfl) ?_
  intro f cdv A outer s H0 H vs Q E E0 hr h
  obtain ⟨x, y, rfl, ⟨hy, hy2⟩, q⟩ := h
  have nd := (sc_in_least_terms).nd
  have gp : 0 < Nat.gcd x y := Nat.gcd_pos_of_pos_right x hy
  have gl : Nat.gcd x y ≤ y := Nat.le_of_dvd hy (Nat.gcd_dvd_right x y)
  have cw : ∀ i : Int, CDivW i (Nat.gcd x y : Nat) := fun i => wide_div (b := 60) (by omega) (by omega) (by decide) (by decide)
  refine bw_cons (sw_set 2 (EVgo (ev_call hg hr (av_cons (ev_name 0) (av_cons (ev_name 1) av_nil)) (fun H1 _ => ⟨x, y, rfl, rfl⟩)) fun H1 e1 => ?_))
  refine bw_one (sw_ret (evu_tup (av_cons (ev_fdivW (ev_name 0) (ev_name 2) (cw _)) (av_cons (ev_fdivW (ev_name 1) (ev_name 2) (cw _)) av_nil)) (by simp) H1 (Ex.refl H1) _ fun p H2 _ e2 hp => ?_))
  exact q p H2 (e1.trans e2) hp
/-- two amounts together -/
def spPlus (K : PySem.W.Frag) : Sp := fun vs H Q _ => ∃ x y, vs = [x, y] ∧ ∃ m k, Amt K H x m ∧ Amt K H y k ∧ ∀ v H1, Ex H H1 → Amt K H1 v (m + k) → Q v H1
theorem cmulR {i j : Int} (h : 0 ≤ j ∧ j ≤ 55440) : CMul i j := .inr ⟨by omega, by omega⟩
theorem loB_i (m : Nat) : 0 ≤ (loB m : Int) ∧ (loB m : Int) ≤ 55440 := ⟨by omega, by have := loB_le m; omega⟩
/-! plus: slots 0 one, 1 other -/
theorem sc_plus : FnScope ["one", "other"] ["one", "other"] (defScope s_plus) := ⟨rfl, rfl, rfl, by decide +kernel, rfl, by decide +kernel, by decide +kernel⟩
theorem ok_plus (D : DefAt K mg "plus" s_plus) (hl : Has P w K mg base 2 "in_least_terms" ["above", "below"] spLeast) : Has P w K mg base 3 "plus" ["one", "other"] (spPlus K) := by
  refine has_of (k := 2) D sc_plus (fun _ _ _ _ _ _ us hl => match us, hl with | [_, _], _ => rfl) (fun vs H Q E h => by
    obtain ⟨x, y, rfl, _⟩ := h
    rfl) ?_
  intro f cdv A outer s H0 H vs Q E E0 hr h
  obtain ⟨x, y, rfl, m, k, ⟨px, rfl, hx⟩, ⟨py, rfl, hy⟩, q⟩ := h
  have e1 : ∀ {X : Cx} {e : Expr} {σ : L2.St} {i n : Nat}, i = n → EV X e σ H (.int (i : Int)) → EV X e σ H (.int (n : Int)) := fun e h => e ▸ h
  have b1 := loB_le m
  have b2 := loB_le k
  refine bw_one (sw_ret (ew_call hl hr (AVgo (av_cons (ev_add (ev_mul (ev_ixT (ev_name 0) ev_int hx.sq atI0) (ev_ixT (ev_name 1) ev_int hy.sq atI1) (cmulR (loB_i k))) (ev_mul (ev_ixT (ev_name 1) ev_int hy.sq atI0) (ev_ixT (ev_name 0) ev_int hx.sq atI1) (cmulR (loB_i m)))) (av_cons (ev_mul (ev_ixT (ev_name 0) ev_int hx.sq atI1) (ev_ixT (ev_name 1) ev_int hy.sq atI1) (cmulR (loB_i k))) av_nil)) fun H1 e1 => ?_)))
  refine ⟨loA m * loB k + loA k * loB m, loB m * loB k, by push_cast; rfl, ⟨Nat.mul_pos (loB_pos m) (loB_pos k), ?_⟩, fun p H2 e2 hp => q _ H2 (e1.trans e2) ⟨p, rfl, .inl ?_⟩⟩
  · have := Nat.mul_le_mul b1 b2
    omega
  · rw [hp, (lo_plus m k).1, (lo_plus m k).2]
def spBelow (K : PySem.W.Frag) : Sp := spV fun vs H v => ∃ x y, vs = [x, y] ∧ ∃ m k, Amt K H x m ∧ Amt K H y k ∧ v = .bl (decide (m < k))
/-! is_below: slots 0 one, 1 other -/
theorem sc_is_below : FnScope ["one", "other"] ["one", "other"] (defScope s_is_below) := ⟨rfl, rfl, rfl, by decide +kernel, rfl, by decide +kernel, by decide +kernel⟩
theorem ok_is_below (D : DefAt K mg "is_below" s_is_below) : Has P w K mg base 1 "is_below" ["one", "other"] (spBelow K) := by
  refine has_of (k := 0) D sc_is_below (fun _ _ _ _ _ _ us hl => match us, hl with | [_, _], _ => rfl) (fun vs H Q E h => by
    obtain ⟨_, ⟨x, y, rfl, _⟩, _⟩ := h
    rfl) ?_
  intro f cdv A outer s H0 H vs Q E E0 hr h
  obtain ⟨v, ⟨x, y, rfl, m, k, ⟨px, rfl, hx⟩, ⟨py, rfl, hy⟩, rfl⟩, q⟩ := h
  refine bw_one (sw_ret (EVgo (ev_lt (ev_mul (ev_ixT (ev_name 0) ev_int hx.sq atI0) (ev_ixT (ev_name 1) ev_int hy.sq atI1) (cmulR (loB_i k))) (ev_mul (ev_ixT (ev_name 1) ev_int hy.sq atI0) (ev_ixT (ev_name 0) ev_int hx.sq atI1) (cmulR (loB_i m)))) fun H1 e1 => ?_))
  have e : decide ((loA m : Int) * (loB k : Int) < (loA k : Int) * (loB m : Int)) = decide (m < k) := by
    rw [decide_eq_decide, ← lo_lt m k]
    omega
  rw [e]
  exact q H1 e1
/-- the sum of amounts -/
def Amts (K : PySem.W.Frag) (H : Hp) (xs : List V) (ms : List Nat) : Prop := xs.length = ms.length ∧ ∀ (i : Nat) (x : V) (m : Nat), xs[i]? = some x → ms[i]? = some m → Amt K H x m
theorem Amts.mono {H H' : Hp} {xs : List V} {ms : List Nat} (h : Amts K H xs ms) (e : Ex H H') : Amts K H' xs ms := ⟨h.1, fun i x m a b => (h.2 i x m a b).mono e⟩
theorem sum_snoc {ms : List Nat} {i m : Nat} (h : ms[i]? = some m) : (ms.take (i + 1)).sum = (ms.take i).sum + m := by
  rw [take_snoc h, List.sum_append, List.sum_singleton]
def spTotal (K : PySem.W.Frag) : Sp := fun vs H Q _ => ∃ p, vs = [.ref p] ∧ ∃ xs ms, SqL K H p xs ∧ Amts K H xs ms ∧ ∀ v H1, Ex H H1 → Amt K H1 v ms.sum → Q v H1
/-! total: slots 0 amounts, 1 found, 2 one -/
theorem sc_total : FnScope ["amounts", "found", "one"] ["amounts"] (defScope s_total) := ⟨rfl, rfl, rfl, by decide +kernel, rfl, by decide +kernel, by decide +kernel⟩
theorem ok_total (B : Blt K mg) (D : DefAt K mg "total" s_total) (hp : Has P w K mg base 3 "plus" ["one", "other"] (spPlus K)) : Has P w K mg base 4 "total" ["amounts"] (spTotal K) := by
  refine has_of (k := 3) D sc_total (fun _ _ _ _ _ _ us hl => match us, hl with | [_], _ => rfl) (fun vs H Q E h => by
    obtain ⟨p, rfl, _⟩ := h
    rfl) ?_
  intro f cdv A outer s H0 H vs Q E E0 hr h
  obtain ⟨p, rfl, xs, ms, hx, ha, q⟩ := h
  have nd := (sc_total).nd
  obtain ⟨pn, hn1, hn2⟩ := B.NOUGHT
  refine bw_cons (sw_set 1 (EVgo (ev_glob (v := .ref pn) hn1 rfl) fun H1 e1 => ?_))
  have n0 : Amt K H1 (.ref pn) 0 := by
    refine ⟨pn, rfl, ?_⟩
    rcases hn2 (fun _ => none) with h | h
    · rcases h with h | ⟨_, h⟩ <;> cases h
    · exact .inr h
  refine bw_cons (sw_forL PassesOwn.never (p := p) (xs := xs) (ev_name 0) (Evl.ex_l e1 hx) (fun i σ' H' => ∃ v z, σ' = [some (.ref p), some v, z] ∧ Amt K H' v (ms.take i).sum ∧ Ex H H') (fun H2 e2 => ⟨_, _, rfl, n0.mono e2, e1.trans e2⟩) (fun i σ' H' _ ⟨_, _, _, _, e⟩ => Evl.ex_l e hx) ?_ ?_)
  · rintro i x σ' H' hi ⟨v, z, rfl, hv, e2⟩
    obtain ⟨m, hm⟩ : ∃ m, ms[i]? = some m := by
      have := (List.getElem?_eq_some_iff.mp hi).1
      rw [ha.1] at this
      exact ⟨_, List.getElem?_eq_getElem this⟩
    refine gw_name 2 (bw_one (sw_set 1 (ew_call hp hr (AVgo (av_cons (ev_name 1) (av_cons (ev_name 2) av_nil)) fun H3 e3 => ⟨_, _, rfl, _, m, hv.mono e3, (ha.2 i x m hi hm).mono (e2.trans e3), fun v' H4 e4 hv' => ⟨v', _, rfl, ?_, (e2.trans e3).trans e4⟩⟩))))
    rw [sum_snoc hm]
    exact hv'
  · rintro σ' H' ⟨v, z, rfl, hv, e2⟩
    refine bw_one (sw_ret (EVgo (ev_name 1) fun H3 e3 => q _ _ (e2.trans e3) ?_))
    rw [ha.1, List.take_length] at hv
    exact hv.mono e3
/-- so many parts as an amount: a new one -/
def spLow (K : PySem.W.Frag) : Sp := fun vs H Q _ => ∃ m : Nat, vs = [.int (m : Int)] ∧ ∀ v H1, Ex H H1 → Amt K H1 v m → Q v H1
theorem cdiv_gcd (m : Nat) (i : Int) : CDiv i (Nat.gcd m 55440 : Nat) := by
  have h1 := gcd_pos m
  have h2 := Nat.le_of_dvd (by decide) (Nat.gcd_dvd_right m 55440)
  exact ⟨by omega, by omega⟩
/-! lowest: slots 0 number, 1 common -/
theorem sc_lowest : FnScope ["number", "common"] ["number"] (defScope s_lowest) := ⟨rfl, rfl, rfl, by decide +kernel, rfl, by decide +kernel, by decide +kernel⟩
theorem ok_lowest (B : Blt K mg) (D : DefAt K mg "lowest" s_lowest) (hg : Has P w K mg base 1 "divisor" ["one", "other"] spGcd) : Has P w K mg base 2 "lowest" ["number"] (spLow K) := by
  refine has_of (k := 1) D sc_lowest (fun _ _ _ _ _ _ us hl => match us, hl with | [_], _ => rfl) (fun vs H Q E h => by
    obtain ⟨m, rfl, _⟩ := h
    rfl) ?_
  intro f cdv A outer s H0 H vs Q E E0 hr h
  obtain ⟨m, rfl, q⟩ := h
  have nd := (sc_lowest).nd
  refine bw_cons (sw_set 1 (EVgo (ev_call hg hr (av_cons (ev_name 0) (av_cons (ev_globI B.BELOW) av_nil)) (fun H1 _ => ⟨m, 55440, rfl, rfl⟩)) fun H1 e1 => ?_))
  refine bw_one (sw_ret (evu_tup (av_cons (ev_fdiv (ev_name 0) (ev_name 1) (cdiv_gcd m _)) (av_cons (ev_fdiv (ev_globI B.BELOW) (ev_name 1) (cdiv_gcd m _)) av_nil)) (by simp) H1 (Ex.refl H1) _ fun p H2 _ e2 hp => q _ H2 (e1.trans e2) ⟨p, rfl, .inl ?_⟩))
  rw [hp]
  rfl
/-- of what is an amount -/
def spIsAm (K : PySem.W.Frag) : Sp := spV fun vs H v => ∃ x, vs = [x] ∧ ∃ m, AmS K H x m ∧ v = .bl true
/-! is_amount: slots 0 thing, 1 number -/
theorem sc_is_amount : FnScope ["thing", "number"] ["thing"] (defScope s_is_amount) := ⟨rfl, rfl, rfl, by decide +kernel, rfl, by decide +kernel, by decide +kernel⟩
theorem ok_is_amount (B : Blt K mg) (D : DefAt K mg "is_amount" s_is_amount) (hg : Has P w K mg base 1 "divisor" ["one", "other"] spGcd) (hw : Has P w K mg base 1 "is_row" ["thing"] (spRow K)) : Has P w K mg base 2 "is_amount" ["thing"] (spIsAm K) := by
  refine has_of (k := 1) D sc_is_amount (fun _ _ _ _ _ _ us hl => match us, hl with | [_], _ => rfl) (fun vs H Q E h => by
    obtain ⟨_, ⟨x, rfl, _⟩, _⟩ := h
    rfl) ?_
  intro f cdv A outer s H0 H vs Q E E0 hr h
  obtain ⟨v, ⟨x, rfl, m, ⟨p, rfl, hp⟩, rfl⟩, q⟩ := h
  have nd := (sc_is_amount).nd
  refine bw_cons (sw_ifF (tv_is (tv_bool (wv_or (k := false) (tv_not (tv_val (ev_call hw hr (av_cons (ev_name 0) av_nil) (fun H1 e1 => ⟨_, rfl, .inl ⟨p, _, rfl, hp.mono e1, rfl⟩⟩)))) fun _ => wv_one_or (tv_ne (ev_len B.b_len (ev_name 0) hp) ev_int))) (by rfl)) fun H1 e1 => bw_nil ?_)
  refine bw_cons (sw_forS PassesOwn.never (p := p) (ev_name 0) (hp.mono e1) (fun i σ' H' => ∃ z, σ' = [some (.ref p), z] ∧ Ex H1 H') (fun H2 e2 => ⟨_, rfl, e2⟩) (fun i σ' H' ⟨_, _, e⟩ => e) ?_ ?_)
  · rintro i x σ' H' hi ⟨z, rfl, e2⟩
    obtain ⟨n, rfl⟩ : ∃ n : Int, x = .int n := by
      match i, hi with
      | 0, hi => exact ⟨_, (Option.some.inj hi).symm⟩
      | 1, hi => exact ⟨_, (Option.some.inj hi).symm⟩
    refine gw_name 1 (bw_one (sw_ifF (tv_is (tv_bool (wv_or (k := false) (tv_not (tv_val (ev_isi (t := "int") (T := "int") (k := true) B.b_isinstance B.b_int (ev_name 1) (fun _ _ => .base (.int n))))) fun _ => wv_one_or (tv_val (ev_isi (t := "int") (T := "bool") (k := false) B.b_isinstance B.b_bool (ev_name 1) (fun _ _ => .base (.int n)))))) (by rfl)) fun H3 e3 => bw_nil ⟨_, rfl, e2.trans e3⟩))
  · rintro σ' H' ⟨z, rfl, e2⟩
    have hp2 := (hp.mono e1).mono e2
    refine bw_one (sw_ret (EVgo (ev_is (ev_and (ev_ge (ev_ixS (ev_name 0) ev_int hp2 atI0) ev_int) fun _ => ev_and (ev_ge (ev_ixS (ev_name 0) ev_int hp2 atI1) ev_int) fun _ => ev_one (ev_eq (ev_call hg hr (av_cons (ev_ixS (ev_name 0) ev_int hp2 atI0) (av_cons (ev_ixS (ev_name 0) ev_int hp2 atI1) av_nil)) (fun H1 _ => ⟨_, _, rfl, rfl⟩)) ev_int)) (w := .bl true) ?_) fun H3 e3 => q H3 ((e1.trans e2).trans e3)))
    have h1 := loB_pos m
    rw [lo_cop]
    have h2 : decide ((0 : Int) ≤ (loA m : Int)) = true := decide_eq_true (by omega)
    have h3 : decide ((1 : Int) ≤ (loB m : Int)) = true := decide_eq_true (by omega)
    rw [h2, h3]
    rfl
def spIsWt (K : PySem.W.Frag) : Sp := spV fun vs H v => ∃ x, vs = [x] ∧ ∃ m, AmS K H x m ∧ loA m ≤ 1000000000000 ∧ v = .bl true
/-! is_weight: slots 0 thing -/
theorem sc_is_weight : FnScope ["thing"] ["thing"] (defScope s_is_weight) := ⟨rfl, rfl, rfl, by decide +kernel, rfl, by decide +kernel, by decide +kernel⟩
theorem ok_is_weight (B : Blt K mg) (D : DefAt K mg "is_weight" s_is_weight) (ha : Has P w K mg base 2 "is_amount" ["thing"] (spIsAm K)) : Has P w K mg base 3 "is_weight" ["thing"] (spIsWt K) := by
  refine has_of (k := 2) D sc_is_weight (fun _ _ _ _ _ _ us hl => match us, hl with | [_], _ => rfl) (fun vs H Q E h => by
    obtain ⟨_, ⟨x, rfl, _⟩, _⟩ := h
    rfl) ?_
  intro f cdv A outer s H0 H vs Q E E0 hr h
  obtain ⟨v, ⟨x, rfl, m, hx, hm, rfl⟩, q⟩ := h
  obtain ⟨p, rfl, hp⟩ := id hx
  have h1 := loB_pos m
  refine bw_one (sw_ret (EVgo (ev_is (ev_and (ev_call ha hr (av_cons (ev_name 0) av_nil) (fun H1 e1 => ⟨_, rfl, m, hx.mono e1, rfl⟩)) fun _ => ev_and (ev_le (ev_ixS (ev_name 0) ev_int hp atI0) (ev_globI B.MOST_ABOVE)) fun _ => ev_one (ev_eq (ev_mod (ev_globI B.BELOW) (ev_ixS (ev_name 0) ev_int hp atI1) (by omega)) ev_int)) (w := .bl true) ?_) fun H3 e3 => q H3 e3))
  have h2 : decide ((loA m : Int) ≤ 1000000000000) = true := decide_eq_true (by omega)
  have h3 : (55440 : Int) % (loB m : Int) = 0 := by
    have h := Int.emod_eq_zero_of_dvd (Int.natCast_dvd_natCast.mpr (loB_dvd m))
    simpa using h
  rw [h2, h3]
  rfl
/-- a whole number stays itself; an amount is told by a new tuple -/
def spAsT0 : Sp := spV fun vs _ v => ∃ i, vs = [.int i] ∧ v = .int i
def spAsT (K : PySem.W.Frag) : Sp := fun vs H Q _ => ∃ x, vs = [x] ∧ ∃ m, AmS K H x m ∧ ∀ v H1, Ex H H1 → Amt K H1 v m → Q v H1
/-! as_tuples: slots 0 thing, 1 part -/
theorem sc_as_tuples : FnScope ["thing", "part"] ["thing"] (defScope s_as_tuples) := ⟨rfl, rfl, rfl, by decide +kernel, rfl, by decide +kernel, by decide +kernel⟩
theorem ok_as_tuples0 (B : Blt K mg) (D : DefAt K mg "as_tuples" s_as_tuples) (hw : Has P w K mg base 1 "is_row" ["thing"] (spRow K)) : Has P w K mg base 2 "as_tuples" ["thing"] spAsT0 := by
  refine has_of (k := 1) D sc_as_tuples (fun _ _ _ _ _ _ us hl => match us, hl with | [_], _ => rfl) (fun vs H Q E h => by
    obtain ⟨_, ⟨i, rfl, _⟩, _⟩ := h
    rfl) ?_
  intro f cdv A outer s H0 H vs Q E E0 hr h
  obtain ⟨v, ⟨i, rfl, rfl⟩, q⟩ := h
  refine bw_cons (sw_ifT (tv_is (tv_not (tv_val (ev_call hw hr (av_cons (ev_name 0) av_nil) (fun H1 e1 => ⟨_, rfl, .inr ⟨i, rfl, rfl⟩⟩)))) (by rfl)) fun H1 e1 => bw_one (sw_ret (EVgo (ev_name 0) fun H2 e2 => q H2 (e1.trans e2))))
theorem ok_as_tuples (B : Blt K mg) (D : DefAt K mg "as_tuples" s_as_tuples) (hw : Has P w K mg base 1 "is_row" ["thing"] (spRow K)) (h0 : Has P w K mg base 2 "as_tuples" ["thing"] spAsT0) : Has P w K mg base 3 "as_tuples" ["thing"] (spAsT K) := by
  refine has_of (k := 2) D sc_as_tuples (fun _ _ _ _ _ _ us hl => match us, hl with | [_], _ => rfl) (fun vs H Q E h => by
    obtain ⟨x, rfl, _⟩ := h
    rfl) ?_
  intro f cdv A outer s H0 H vs Q E E0 hr h
  obtain ⟨x, rfl, m, ⟨p, rfl, hp⟩, q⟩ := h
  have nd := (sc_as_tuples).nd
  refine bw_cons (sw_ifF (tv_is (tv_not (tv_val (ev_call hw hr (av_cons (ev_name 0) av_nil) (fun H1 e1 => ⟨_, rfl, .inl ⟨p, _, rfl, hp.mono e1, rfl⟩⟩)))) (by rfl)) fun H1 e1 => bw_nil ?_)
  refine bw_one (sw_ret (ew_Ty call_tuple_of B.b_tuple (aw_cons (ELgo (evl_comp (l := [(loA m : Int), (loB m : Int)]) (toV := V.int) (g := V.int) [("part", 1)] (ev_name 0) (hp.mono e1) (by simp) (fun i => [some (.ref p), some (.int i)]) (fun i _ s0 H0 C cl fp => gv_name 1) (fun i => rfl) (fun i _ s0 H0 C cl fp => ev_call h0 hr (av_cons (ev_name 1) av_nil) (fun H1 _ => ⟨i, rfl, rfl⟩))) fun l H2 _ e2 hl => aw_nil ⟨l, _, rfl, .inl ⟨.inl (.inl hl), fun t ht => q _ _ ((e1.trans e2).trans (Ex.new ht)) ⟨t, rfl, .inl upd_same⟩⟩⟩))))
end
end Cut


namespace Cut
open PySem PySem.Spec PyProof.Rows L2 Evl
/-! ### rooms: what stands in the heap -/
def rmFs (n : Nat) (wd bd cd : Addr) : List (Str × V) := [("size", .int (n : Int)), ("weights", .ref wd), ("brought", .ref bd), ("close", .ref cd)]
def iV (i : Nat) : V := .int (i : Int)
/-- lists of places close to each place -/
def ClAt (H : Hp) (cd : Addr) (n : Nat) (cl : Nat → List Nat) : Prop := ∃ cs : List Addr, H cd = some (.lst (cs.map V.ref)) ∧ cs.length = n ∧ ∀ (i : Nat) (c : Addr), cs[i]? = some c → H c = some (.lst ((cl i).map iV))
/-- a dict that tells g, nought where it has nothing -/
def DnAt (H : Hp) (d : Addr) (n : Nat) (F : Mx) : Prop := ∃ kvs f, H d = some (.dT kvs) ∧ Pd n kvs f ∧ ∀ i j, i < n → j < n → f i j = some (.int (F i j)) ∨ (f i j = none ∧ F i j = 0)
/-- what is brought: of a flow's two directions the one above nought -/
def BrAt (H : Hp) (d : Addr) (n : Nat) (F : Mx) : Prop := ∃ kvs f, H d = some (.dT kvs) ∧ Pd n kvs f ∧ ∀ i j, i < n → j < n → f i j = some (.int (max 0 (F i j))) ∨ (f i j = none ∧ F i j = 0)
structure RmAt (CR : Addr) (H : Hp) (r bd : Addr) (n : Nat) (W F : Mx) (cl : Nat → List Nat) : Prop where
  ob : ∃ dx wd cd, H r = some (.ins CR dx (rmFs n wd bd cd)) ∧ wd ≠ bd ∧ DnAt H wd n W ∧ ClAt H cd n cl
  br : BrAt H bd n F
  an : Anti F
  le : 1 ≤ n ∧ n ≤ 7
section
variable {H H' : Hp} {d cd r bd CR : Addr} {n : Nat} {W F : Mx} {cl : Nat → List Nat} {M : List Addr}
theorem ClAt.mono (h : ClAt H cd n cl) (e : Ex H H') : ClAt H' cd n cl := by
  obtain ⟨cs, h1, h2, h3⟩ := h
  exact ⟨cs, e _ _ h1, h2, fun i c q => e _ _ (h3 i c q)⟩
theorem DnAt.mono (h : DnAt H d n W) (e : Ex H H') : DnAt H' d n W := by
  obtain ⟨kvs, f, h1, h2⟩ := h
  exact ⟨kvs, f, e _ _ h1, h2⟩
theorem BrAt.mono (h : BrAt H d n W) (e : Ex H H') : BrAt H' d n W := by
  obtain ⟨kvs, f, h1, h2⟩ := h
  exact ⟨kvs, f, e _ _ h1, h2⟩
theorem RmAt.mono (h : RmAt CR H r bd n W F cl) (e : Ex H H') : RmAt CR H' r bd n W F cl := by
  obtain ⟨⟨dx, wd, cd, h1, h2, h3, h4⟩, h5, h6, h7⟩ := h
  exact ⟨⟨dx, wd, cd, e _ _ h1, h2, h3.mono e, h4.mono e⟩, h5.mono e, h6, h7⟩
/-- what is brought is another thing now; all else stays -/
theorem RmAt.brought {F' : Mx} (h : RmAt CR H r bd n W F cl) (e : Km [bd] H H') (b : BrAt H' bd n F') (a : Anti F') : RmAt CR H' r bd n W F' cl := by
  obtain ⟨⟨dx, wd, cd, h1, h2, ⟨kw, fw, h3, h3'⟩, ⟨cs, h4, h4', h4''⟩⟩, ⟨kb, fb, h5, _⟩, h6, h7⟩ := h
  have ne : ∀ {p : Addr} {o : HO}, H p = some o → (∀ kvs, o ≠ .dT kvs) → p ∉ [bd] := fun {p o} hp ho z => by
    have : p = bd := by simpa using z
    rw [this, h5] at hp
    exact ho kb (Option.some.inj hp).symm
  exact ⟨⟨dx, wd, cd, e _ _ h1 (ne h1 fun _ z => by cases z), h2, ⟨kw, fw, e _ _ h3 (by simpa using h2), h3'⟩, ⟨cs, e _ _ h4 (ne h4 fun _ z => by cases z), h4', fun i c q => e _ _ (h4'' i c q) (ne (h4'' i c q) fun _ z => by cases z)⟩⟩, b, a, h7⟩
theorem max_sub {a b : Int} (h : a = - b) : max 0 a - max 0 b = a := by omega
theorem BrAt.get (h : BrAt H d n F) {i j : Nat} (hi : i < n) (hj : j < n) : ∃ kvs, H d = some (.dT kvs) ∧ (valV kvs (kp i j)).getD (.int 0) = .int (max 0 (F i j)) := by
  obtain ⟨kvs, f, h1, h2, h3⟩ := h
  refine ⟨kvs, h1, ?_⟩
  rw [h2.val i j]
  rcases h3 i j hi hj with e | ⟨e, e0⟩
  · rw [e]; rfl
  · rw [e, e0]; rfl
theorem DnAt.get (h : DnAt H d n F) {i j : Nat} (hi : i < n) (hj : j < n) : ∃ kvs, H d = some (.dT kvs) ∧ (valV kvs (kp i j)).getD (.int 0) = .int (F i j) := by
  obtain ⟨kvs, f, h1, h2, h3⟩ := h
  refine ⟨kvs, h1, ?_⟩
  rw [h2.val i j]
  rcases h3 i j hi hj with e | ⟨e, e0⟩
  · rw [e]; rfl
  · rw [e, e0]; rfl
end
section
variable {P : Program} {w : World} {K : PySem.W.Frag} {mg : Str → Option Value} {base : Heap} {CR CW CN CH : Addr}
theorem rm_fl (T : Tops K mg CR CW CN CH) {H : Hp} {r dx : Addr} {n : Nat} {wd bd cd : Addr} (h : H r = some (.ins CR dx (rmFs n wd bd cd))) :
    Fl K H r "size" (.int (n : Int)) ∧ Fl K H r "weights" (.ref wd) ∧ Fl K H r "brought" (.ref bd) ∧ Fl K H r "close" (.ref cd) :=
  ⟨⟨CR, dx, _, h, T.cRooms.cl, T.nRooms.size, rfl⟩, ⟨CR, dx, _, h, T.cRooms.cl, T.nRooms.weights, rfl⟩, ⟨CR, dx, _, h, T.cRooms.cl, T.nRooms.brought, rfl⟩, ⟨CR, dx, _, h, T.cRooms.cl, T.nRooms.close, rfl⟩⟩
/-- an amount in parts -/
def spParts (K : PySem.W.Frag) : Sp := spV fun vs H v => ∃ x y, vs = [x, y] ∧ ∃ m, AmS K H y m ∧ v = .int (m : Int)
/-! Rooms.parts: slots 0 self, 1 amount -/
theorem sc_Rooms_parts : FnScope ["self", "amount"] ["self", "amount"] (defScope s_Rooms_parts) := ⟨rfl, rfl, rfl, by decide +kernel, rfl, by decide +kernel, by decide +kernel⟩
theorem ok_Rooms_parts (T : Tops K mg CR CW CN CH) : HasM P w K mg base CR 1 "parts" ["self", "amount"] (spParts K) := by
  refine hasM_of (k := 0) T.Rooms_parts sc_Rooms_parts (fun _ _ _ _ _ _ us hl => match us, hl with | [_, _], _ => rfl) (fun vs H Q E h => by
    obtain ⟨_, ⟨x, y, rfl, _⟩, _⟩ := h
    rfl) ?_
  intro f cdv A outer s H0 H vs Q E E0 hr h
  obtain ⟨v, ⟨x, y, rfl, m, ⟨p, rfl, hp⟩, rfl⟩, q⟩ := h
  have h1 := loB_pos m
  have h2 := loB_le m
  refine bw_one (sw_ret (EVgo (ev_mul (ev_ixS (ev_name 1) ev_int hp atI0) (ev_fdiv (ev_globI T.b.BELOW) (ev_ixS (ev_name 1) ev_int hp atI1) ⟨by omega, by omega⟩) (cmulR ?_)) fun H1 e1 => ?_))
  · have h3 : (55440 : Int) / (loB m : Int) = ((55440 / loB m : Nat) : Int) := rfl
    rw [h3]
    exact ⟨Int.natCast_nonneg _, Int.ofNat_le.mpr (Nat.div_le_self _ _)⟩
  · have h3 : (loA m : Int) * ((55440 : Int) / (loB m : Int)) = (m : Int) := by
      have h4 : (loA m : Int) * ((55440 : Int) / (loB m : Int)) = ((loA m * (55440 / loB m) : Nat) : Int) := rfl
      rw [h4, lo_parts]
    rw [h3]
    exact q H1 e1
/-- the room between two places -/
def spSpare (CR : Addr) : Sp := spV fun vs H v => ∃ (r : Addr) (i j : Nat), vs = [.ref r, .int (i : Int), .int (j : Int)] ∧ ∃ bd n W F cl, RmAt CR H r bd n W F cl ∧ i < n ∧ j < n ∧ v = .int (W i j - F i j)
/-! Rooms.spare: slots 0 self, 1 i, 2 j -/
theorem sc_Rooms_spare : FnScope ["self", "i", "j"] ["self", "i", "j"] (defScope s_Rooms_spare) := ⟨rfl, rfl, rfl, by decide +kernel, rfl, by decide +kernel, by decide +kernel⟩
theorem ok_Rooms_spare (T : Tops K mg CR CW CN CH) : HasM P w K mg base CR 1 "spare" ["self", "i", "j"] (spSpare CR) := by
  refine hasM_of (k := 0) T.Rooms_spare sc_Rooms_spare (fun _ _ _ _ _ _ us hl => match us, hl with | [_, _, _], _ => rfl) (fun vs H Q E h => by
    obtain ⟨_, ⟨r, i, j, rfl, _⟩, _⟩ := h
    rfl) ?_
  intro f cdv A outer s H0 H vs Q E E0 hr h
  obtain ⟨v, ⟨r, i, j, rfl, bd, n, W, F, cl, R, hi, hj, rfl⟩, q⟩ := h
  obtain ⟨⟨dx, wd, cd, h1, h2, h3, h4⟩, h5, h6, h7⟩ := R
  obtain ⟨fs, fw, fb, fc⟩ := rm_fl T h1
  have hu := hu_of hr
  obtain ⟨kw, w1, w2⟩ := h3.get hi hj
  obtain ⟨kb, b1, b2⟩ := h5.get hi hj
  obtain ⟨kb', b1', b2'⟩ := h5.get hj hi
  refine bw_one (sw_ret (EVgo (ev_add (ev_sub (ev_get2 (k := kp i j) hu (ev_fld (ev_name 0) fw) (evu_tup (av_cons (ev_name 1) (av_cons (ev_name 2) av_nil))) ev_int w1 w2) (ev_get2 (k := kp i j) hu (ev_fld (ev_name 0) fb) (evu_tup (av_cons (ev_name 1) (av_cons (ev_name 2) av_nil))) ev_int b1 b2)) (ev_get2 (k := kp j i) hu (ev_fld (ev_name 0) fb) (evu_tup (av_cons (ev_name 2) (av_cons (ev_name 1) av_nil))) ev_int b1' b2')) fun H1 e1 => ?_))
  have e : W i j - max 0 (F i j) + max 0 (F j i) = W i j - F i j := by
    have := h6 i j
    omega
  rw [e]
  exact q H1 e1
/-- bringing so much more -/
def spPut (CR : Addr) : Sp := fun vs H Q _ => ∃ (r : Addr) (i j : Nat) (x : Int), vs = [.ref r, .int (i : Int), .int (j : Int), .int x] ∧ ∃ bd n W F cl, RmAt CR H r bd n W F cl ∧ i < n ∧ j < n ∧ i ≠ j ∧ ∀ H', RmAt CR H' r bd n W (pt F i j x) cl → Km [bd] H H' → Q .non H'
/-! Rooms.put: slots 0 self, 1 i, 2 j, 3 number, 4 back -/
theorem sc_Rooms_put : FnScope ["self", "i", "j", "number", "back"] ["self", "i", "j", "number"] (defScope s_Rooms_put) := ⟨rfl, rfl, rfl, by decide +kernel, rfl, by decide +kernel, by decide +kernel⟩
theorem ok_Rooms_put (T : Tops K mg CR CW CN CH) : HasM P w K mg base CR 1 "put" ["self", "i", "j", "number"] (spPut CR) := by
  refine hasM_of (k := 0) T.Rooms_put sc_Rooms_put (fun _ _ _ _ _ _ us hl => match us, hl with | [_, _, _, _], _ => rfl) (fun vs H Q E h => by
    obtain ⟨r, i, j, x, rfl, _⟩ := h
    rfl) ?_
  intro f cdv A outer s H0 H vs Q E E0 hr h
  obtain ⟨r, i, j, x, rfl, bd, n, W, F, cl, R, hi, hj, hij, q⟩ := h
  obtain ⟨⟨dx, wd, cd, h1, h2, h3, h4⟩, h5, h6, h7⟩ := id R
  have nd := (sc_Rooms_put).nd
  have hu := hu_of hr
  obtain ⟨kb, b1, b2⟩ := h5.get hi hj
  obtain ⟨kb', b1', b2'⟩ := h5.get hj hi
  obtain ⟨fs, fw, fb, fc⟩ := rm_fl T h1
  have nrb : r ≠ bd := ne_of h1 b1 (by intro z; cases z)
  refine bw_cons (sw_set 4 (EVgo (ev_get2 (k := kp j i) hu (ev_fld (ev_name 0) fb) (evu_tup (av_cons (ev_name 2) (av_cons (ev_name 1) av_nil))) ev_int b1' b2') fun H1 e1 => ?_))
  refine bw_cons (sw_set 3 (EVgo (ev_sub (ev_add (ev_get2 (k := kp i j) hu (ev_fld (ev_name 0) (fb.mono e1)) (evu_tup (av_cons (ev_name 1) (av_cons (ev_name 2) av_nil))) ev_int (e1 _ _ b1) b2) (ev_name 3)) (ev_name 4)) fun H2 e2 => ?_))
  have ev : max 0 (F i j) + x - max 0 (F j i) = F i j + x := by
    have := h6 i j
    omega
  rw [ev]
  obtain ⟨kvs, g, g1, g2, g3⟩ := h5
  have small := g2.small (Nat.le_trans h7.2 (by decide))
  refine bw_cons (sw_dput hu (EVgo (ev_max2 T.b.b_max ev_int (ev_name 3)) fun H3 e3 => EVgo (ev_fld (ev_name 0) (((fb.mono e1).mono e2).mono e3)) fun H4 e4 => EUgo (evu_tup (av_cons (ev_name 1) (av_cons (ev_name 2) av_nil))) fun t H5 nt e5 ht => ?_))
  have e05 : Ex H H5 := (((e1.trans e2).trans e3).trans e4).trans e5
  refine ⟨bd, _, rfl, DPut.t (k := kp i j) (e05 _ _ g1) ht small, ?_⟩
  have k1 : Km [bd] H (upd H5 bd (.dT (putK kvs (kp i j) (.int (max 0 (F i j + x)))))) := (Km.of e05).upd (by simp)
  have p1 := g2.put hi hj (.int (max 0 (F i j + x)))
  have r1 : (upd H5 bd (.dT (putK kvs (kp i j) (.int (max 0 (F i j + x)))))) r = some (.ins CR dx (rmFs n wd bd cd)) := k1 _ _ h1 (by simpa using nrb)
  obtain ⟨_, _, fb2, _⟩ := rm_fl T r1
  refine bw_one (sw_dput hu (EVgo (ev_max2 T.b.b_max ev_int (ev_sub ev_int (ev_name 3))) fun H6 e6 => EVgo (ev_fld (ev_name 0) (fb2.mono e6)) fun H7 e7 => EUgo (evu_tup (av_cons (ev_name 2) (av_cons (ev_name 1) av_nil))) fun t' H8 nt' e8 ht' => ?_))
  have e58 := (e6.trans e7).trans e8
  refine ⟨bd, _, rfl, DPut.t (k := kp j i) (e58 _ _ upd_same) ht' (p1.small (Nat.le_trans h7.2 (by decide))), ?_⟩
  have k2 : Km [bd] H (upd H8 bd (.dT (putK (putK kvs (kp i j) (.int (max 0 (F i j + x)))) (kp j i) (.int (max 0 (0 - (F i j + x))))))) := (k1.trans (Km.of e58)).upd (by simp)
  refine q _ (R.brought k2 ⟨_, _, upd_same, p1.put hj hi (.int (max 0 (0 - (F i j + x)))), fun a b ha hb => ?_⟩ (pt_anti h6 i j x)) k2
  have hji := h6 j i
  by_cases c1 : a = j ∧ b = i
  · rw [if_pos c1]
    obtain ⟨rfl, rfl⟩ := c1
    left
    unfold pt
    rw [if_neg (fun z => hij z.2), if_pos ⟨rfl, rfl⟩]
    congr 2
    omega
  · rw [if_neg c1]
    by_cases c2 : a = i ∧ b = j
    · rw [if_pos c2]
      obtain ⟨rfl, rfl⟩ := c2
      left
      unfold pt
      rw [if_pos ⟨rfl, rfl⟩, if_neg c1]
      congr 2
      omega
    · rw [if_neg c2]
      unfold pt
      rw [if_neg c2, if_neg c1]
      have := g3 a b ha hb
      simpa using this
end
end Cut


namespace Cut
open PySem PySem.Spec PyProof.Rows L2 Evl
section
variable {X : Cx} {σ : L2.St} {H : Hp} {pos : Pos} {a b : Expr} {i : Int}
theorem ev_ixTn {p : Addr} {xs : List V} {v : V} (j : Nat) (ha : EV X a σ H (.ref p)) (hb : EV X b σ H (.int i)) (h : SqT X.K H p xs) (hv : xs[j]? = some v) (hi : i = (j : Int) := by omega) (hs : PlainIx b := by exact fun _ _ => rfl) : EV X (.Subscript a b pos) σ H v := by
  subst hi
  exact ev_ixT ha hb h (atI_nat hv) hs
theorem ev_ixLn {p : Addr} {xs : List V} {v : V} (j : Nat) (ha : EV X a σ H (.ref p)) (hb : EV X b σ H (.int i)) (h : SqL X.K H p xs) (hv : xs[j]? = some v) (hi : i = (j : Int) := by omega) (hs : PlainIx b := by exact fun _ _ => rfl) : EV X (.Subscript a b pos) σ H v := by
  subst hi
  exact ev_ixL ha hb h (atI_nat hv) hs
end
theorem ws_get {ws : List Nat} {i : Nat} (h : i < ws.length) : (ws.map iV)[i]? = some (iV ws[i]) := by
  rw [List.getElem?_map, List.getElem?_eq_getElem h]; rfl
/-- so much more along a way -/
def crr : Mx → List Nat → Int → Mx
  | F, a :: b :: r, x => crr (pt F a b x) (b :: r) x
  | F, _, _ => F
section
variable {P : Program} {w : World} {K : PySem.W.Frag} {mg : Str → Option Value} {base : Heap} {CR CW CN CH : Addr}
def spCarry (K : PySem.W.Frag) (CR : Addr) : Sp := fun vs H Q _ => ∃ (r p : Addr) (x : Int), vs = [.ref r, .ref p, .int x] ∧ ∃ (bd : Addr) (n : Nat) (W F : Mx) (cl : Nat → List Nat) (ws : List Nat), RmAt CR H r bd n W F cl ∧ Tp K H p (ws.map iV) ∧ ws.length ≤ 1000 ∧ (∀ v ∈ ws, v < n) ∧ ws.Nodup ∧ ∀ H', RmAt CR H' r bd n W (crr F ws x) cl → Km [bd] H H' → Q .non H'
/-! Rooms.carry: slots 0 self, 1 way, 2 number, 3 at -/
theorem sc_Rooms_carry : FnScope ["self", "way", "number", "at"] ["self", "way", "number"] (defScope s_Rooms_carry) := ⟨rfl, rfl, rfl, by decide +kernel, rfl, by decide +kernel, by decide +kernel⟩
theorem ok_Rooms_carry (T : Tops K mg CR CW CN CH) (hp : HasM P w K mg base CR 1 "put" ["self", "i", "j", "number"] (spPut CR)) : HasM P w K mg base CR 2 "carry" ["self", "way", "number"] (spCarry K CR) := by
  refine hasM_of (k := 1) T.Rooms_carry sc_Rooms_carry (fun _ _ _ _ _ _ us hl => match us, hl with | [_, _, _], _ => rfl) (fun vs H Q E h => by
    obtain ⟨r, p, x, rfl, _⟩ := h
    rfl) ?_
  intro f cdv A outer s H0 H vs Q E E0 hr h
  obtain ⟨r, p, x, rfl, bd, n, W, F, cl, ws, R, hw, hz, hlt, hnd, q⟩ := h
  have nd := (sc_Rooms_carry).nd
  obtain ⟨kb, _, hb, _⟩ := id R.br
  have nb : ∀ m ∈ [bd], ∀ ys, H m ≠ some (.tup ys) := fun m hm ys z => by
    rw [List.mem_singleton.mp hm, hb] at z
    cases z
  refine bw_one (sw_forR2 PassesOwn.never (lo := 1) (n := ws.length) T.b.b_range ev_int (ev_is (ev_len T.b.b_len (ev_name 1) (.inr hw.sq)) (by rw [List.length_map])) (by omega) (fun i σ' H' => ∃ z G, σ' = [some (.ref r), some (.ref p), some (.int x), z] ∧ RmAt CR H' r bd n W G cl ∧ crr G (ws.drop i) x = crr F ws x ∧ Km [bd] H H') (fun H1 e1 => ⟨_, F, rfl, R.mono e1, rfl, Km.of e1⟩) ?_ ?_)
  · rintro i σ' H' hi ⟨z, G, rfl, R', hG, k1⟩
    have h1 : i < ws.length := by omega
    have h2 : i + 1 < ws.length := by omega
    have hw' := hw.km k1 nb
    obtain ⟨⟨dx, wd, cd, o1, _⟩, _⟩ := id R'
    refine gw_name 3 (bw_one (sw_expr (ew_meth hp T.cRooms.cl hr (EVgo (ev_name 0) fun H2 e2 => ⟨r, dx, _, rfl, e2 _ _ o1, rfl, AVgo (av_cons (ev_ixTn i (ev_name 1) (ev_sub (ev_name 3) ev_int) (hw'.mono e2).sq (ws_get h1)) (av_cons (ev_ixTn (i + 1) (ev_name 1) (ev_name 3) (hw'.mono e2).sq (ws_get h2)) (av_cons (ev_name 2) av_nil))) fun H3 e3 => ?_⟩))))
    refine ⟨r, ws[i], ws[i + 1], x, rfl, bd, n, W, G, cl, R'.mono (e2.trans e3), hlt _ (List.getElem_mem _), hlt _ (List.getElem_mem _), fun e => ?_, fun H4 R4 k4 => ⟨_, _, rfl, R4, ?_, (k1.trans (Km.of (e2.trans e3))).trans k4⟩⟩
    · have := (List.getElem_inj hnd).mp e
      omega
    · rw [← hG, List.drop_eq_getElem_cons h1, List.drop_eq_getElem_cons h2]
      rfl
  · rintro σ' H' ⟨z, G, rfl, R', hG, k1⟩
    have e : crr G (ws.drop (ws.length - 1)) x = G := by
      cases hw : ws.drop (ws.length - 1) with
      | nil => rfl
      | cons a r =>
        cases r with
        | nil => rfl
        | cons b r =>
          have := congrArg List.length hw
          rw [List.length_drop, List.length_cons, List.length_cons] at this
          omega
    rw [e] at hG
    rw [hG] at R'
    exact q H' R' k1
/-- the least room on a way -/
def spLeastRoom (K : PySem.W.Frag) (CR : Addr) : Sp := fun vs H Q _ => ∃ (r p : Addr), vs = [.ref r, .ref p] ∧ ∃ (bd : Addr) (n : Nat) (W F : Mx) (cl : Nat → List Nat) (ws : List Nat), RmAt CR H r bd n W F cl ∧ Tp K H p (ws.map iV) ∧ (2 ≤ ws.length ∧ ws.length ≤ 1000) ∧ (∀ v ∈ ws, v < n) ∧
  ∀ m H', Ex H H' → (∀ k (h : k + 1 < ws.length), m ≤ W ws[k] ws[k + 1] - F ws[k] ws[k + 1]) → (∃ k, ∃ (h : k + 1 < ws.length), m = W ws[k] ws[k + 1] - F ws[k] ws[k + 1]) → Q (.int m) H'
/-! Rooms.least_room: slots 0 self, 1 way, 2 at -/
theorem sc_Rooms_least_room : FnScope ["self", "way", "at"] ["self", "way"] (defScope s_Rooms_least_room) := ⟨rfl, rfl, rfl, by decide +kernel, rfl, by decide +kernel, by decide +kernel⟩
theorem ok_Rooms_least_room (T : Tops K mg CR CW CN CH) (hp : HasM P w K mg base CR 1 "spare" ["self", "i", "j"] (spSpare CR)) : HasM P w K mg base CR 2 "least_room" ["self", "way"] (spLeastRoom K CR) := by
  refine hasM_of (k := 1) T.Rooms_least_room sc_Rooms_least_room (fun _ _ _ _ _ _ us hl => match us, hl with | [_, _], _ => rfl) (fun vs H Q E h => by
    obtain ⟨r, p, rfl, _⟩ := h
    rfl) ?_
  intro f cdv A outer s H0 H vs Q E E0 hr h
  obtain ⟨r, p, rfl, bd, n, W, F, cl, ws, R, hw, hz, hlt, q⟩ := h
  have nd := (sc_Rooms_least_room).nd
  obtain ⟨⟨dx, wd, cd, o1, _⟩, _⟩ := id R
  let g : Nat → Int := fun i => if h : i + 1 < ws.length then W ws[i] ws[i + 1] - F ws[i] ws[i + 1] else 0
  have hg : ∀ i (h : i + 1 < ws.length), g i = W ws[i] ws[i + 1] - F ws[i] ws[i + 1] := fun i h => dif_pos h
  refine bw_one (sw_ret (ew_B (cr_min rfl) T.b.b_min (aw_cons (ELgo (evl_compR2 (lo := 1) (n := ws.length) (g := fun i => .int (g i)) [("at", 2)] T.b.b_range ev_int (ev_is (ev_len T.b.b_len (ev_name 1) (.inr hw.sq)) (by rw [List.length_map])) (by omega) (fun i => [some (.ref r), some (.ref p), some (.int ((1 + i : Nat) : Int))]) (fun i hi s0 H0 C cl fp => gv_name 2) (fun i => rfl) (fun i hi s0 H0 C cl' fp => ?_)) fun l H1 nl e1 hl => aw_nil ⟨l, (List.range (ws.length - 1)).map g, rfl, .inl (.inl ?_), ?_, fun m hm hle => ?_⟩))))
  · have h1 : i < ws.length := by omega
    have h2 : i + 1 < ws.length := by omega
    refine ev_meth hp T.cRooms.cl hr (ev_name 0) o1 rfl (av_cons (ev_ixTn i (ev_name 1) (ev_sub (ev_name 2) ev_int) hw.sq (ws_get h1)) (av_cons (ev_ixTn (i + 1) (ev_name 1) (ev_name 2) hw.sq (ws_get h2)) av_nil)) (fun H1 e1 => ⟨r, ws[i], ws[i + 1], rfl, bd, n, W, F, cl, R.mono e1, hlt _ (List.getElem_mem _), hlt _ (List.getElem_mem _), by rw [hg i h2]⟩)
  · rw [hl, List.map_map]
    rfl
  · rw [List.length_map, List.length_range]
    omega
  · obtain ⟨k, hk, e⟩ := List.mem_map.mp hm
    have hk' := List.mem_range.mp hk
    refine q m H1 e1 (fun k h => ?_) ⟨k, by omega, by rw [← e, hg k (by omega)]⟩
    rw [← hg k h]
    exact hle _ (List.mem_map_of_mem (List.mem_range.mpr (by omega)))
end
end Cut


namespace Cut
open PySem PySem.Spec PyProof.Rows L2 Evl
/-! ### comprehensions and loops over anything that is walked -/
/-- tuples stay -/
def Kt (H H' : Hp) : Prop := ∀ b xs, H b = some (.tup xs) → H' b = some (.tup xs)
theorem Kt.of {H H' : Hp} (e : Ex H H') : Kt H H' := fun b xs h => e b _ h
theorem Kt.trans {H H1 H2 : Hp} (a : Kt H H1) (b : Kt H1 H2) : Kt H H2 := fun c xs h => b c xs (a c xs h)
theorem Kt.upd {H : Hp} {p : Addr} {o : HO} (h : ∀ xs, H p ≠ some (.tup xs)) : Kt H (upd H p o) := fun b xs e => by
  have : b ≠ p := fun z => h xs (z ▸ e)
  rw [upd_ne this]
  exact e
theorem Kt.updL {H : Hp} {p : Addr} {o : HO} {ys : List V} (h : H p = some (.lst ys)) : Kt H (L2.upd H p o) := Kt.upd fun xs e => by
  rw [h] at e
  cases e
theorem Km.kt {M : List Addr} {H H' : Hp} (k : Km M H H') (h : ∀ m ∈ M, ∀ ys, H m ≠ some (.tup ys)) : Kt H H' := fun b xs e => k b _ e fun z => h b z xs e
theorem Tp.kt {K : PySem.W.Frag} {H H' : Hp} {p : Addr} {xs : List V} (h : Tp K H p xs) (k : Kt H H') : Tp K H' p xs := h.elim (fun h => .inl (k _ _ h)) .inr
theorem Amt.kt {K : PySem.W.Frag} {H H' : Hp} {v : V} {m : Nat} (h : Amt K H v m) (k : Kt H H') : Amt K H' v m := by
  obtain ⟨p, h1, h2⟩ := h
  exact ⟨p, h1, h2.kt k⟩
/-- the results one by one -/
def AllR {α : Type} (R : α → V → Hp → Prop) (l : List α) (ys : List V) (H : Hp) : Prop := ys.length = l.length ∧ ∀ (k : Nat) (a : α) (y : V), l[k]? = some a → ys[k]? = some y → R a y H
theorem AllR.nil {α : Type} {R : α → V → Hp → Prop} {H : Hp} : AllR R [] [] H := ⟨rfl, fun k a y h => by simp at h⟩
theorem AllR.imp {α : Type} {R R' : α → V → Hp → Prop} {l : List α} {ys : List V} {H H' : Hp} (h : AllR R l ys H) (f : ∀ a y, R a y H → R' a y H') : AllR R' l ys H' := ⟨h.1, fun k a y h1 h2 => f a y (h.2 k a y h1 h2)⟩
theorem AllR.snoc {α : Type} {R : α → V → Hp → Prop} {l : List α} {ys : List V} {H : Hp} {a : α} {y : V} (h : AllR R l ys H) (r : R a y H) : AllR R (l ++ [a]) (ys ++ [y]) H := by
  refine ⟨by rw [List.length_append, List.length_append, h.1] <;> rfl, fun k b z h1 h2 => ?_⟩
  by_cases hk : k < l.length
  · rw [List.getElem?_append_left hk] at h1
    rw [List.getElem?_append_left (by rw [h.1]; exact hk)] at h2
    exact h.2 k b z h1 h2
  · rw [List.getElem?_append_right (by omega)] at h1
    rw [List.getElem?_append_right (by rw [h.1]; omega), h.1] at h2
    cases e : k - l.length with
    | zero =>
      rw [e] at h1 h2
      cases h1
      cases h2
      exact r
    | succ j =>
      rw [e] at h1
      simp at h1
/-- it gives something of which post holds, the heap but grown -/
def EX (te : TE) (σ : L2.St) (H : Hp) (post : V → Hp → Prop) : Prop := ∀ H1, Ex H H1 → ∀ Q : VK, (∀ v H2, Ex H1 H2 → post v H2 → Q v H2) → te σ H1 Q
theorem EX.ev {te : TE} {σ : L2.St} {H : Hp} {v : V} {post : V → Hp → Prop} (h : Evl.Ev te σ H v) (hp : ∀ H1, Ex H H1 → post v H1) : EX te σ H post := fun H1 e1 Q q => h H1 e1 Q fun H2 e2 => q v H2 e2 (hp H2 (e1.trans e2))
section
variable {X : Cx} {scope : Scope} {σ : L2.St} {H : Hp} {pos : Pos} {elt tg iter c : Expr} {Q : VK} {α : Type} {l : List α} {pf : α → Bool} {R : α → V → Hp → Prop} {vs : List Nat} {J : It} {n : Nat} {G : Hp → Prop} {Y : Nat → Hp → V → Hp → Prop} {Fx : α → V → Hp → Prop} {sg : α → V → L2.St} {tt : TT}
/-- what a comprehension asks once it has its walk -/
def LcG (g : TG) (tt : TT) (te : TE) (vs : List Nat) (σ : L2.St) (Q : VK) : It → Hp → Prop := fun J H1 => ∀ D, H1 D = none → ∃ W : Nat → Nat → Hp → Prop, (∃ m, W 0 m (upd H1 D (.lst []))) ∧ ∀ i m H, W i m H →
  (J.stop i H ∧ Q (.ref D) H) ∨ (J.go i H ∧ ∃ Nx : Hp → Prop, (∀ H', Nx H' → ∃ m', m' < m ∧ W (i + 1) m' H') ∧ ∀ x H', J.yld i H x H' → g x (wipe σ vs) H' fun σ2 H2 => wipe σ2 vs = wipe σ vs ∧ tt σ2 H2 fun b H3 =>
    if b = true then te σ2 H3 fun y H4 => ∃ acc, H4 D = some (.lst acc) ∧ acc.length < sizeLine ∧ Nx (upd H4 D (.lst (acc ++ [y]))) else Nx H3)
theorem lc_goX (w : Walk J n G Y) (hG : ∀ H2, Ex H H2 → G H2) (hn : l.length = n) (hz : n ≤ 40000)
    (hy : ∀ (i : Nat) a x H1 H2, l[i]? = some a → Ex H H1 → Y i H1 x H2 → Ex H1 H2 ∧ Fx a x H2) (hF : ∀ a x H1 H2, Fx a x H1 → Ex H1 H2 → Fx a x H2)
    (hg : ∀ a ∈ l, ∀ x H2, Ex H H2 → Fx a x H2 → ∀ s0 H0 C cl fp, GV (Bk X scope s0 H0 C cl fp) tg x (wipe σ vs) H2 (sg a x)) (hw : ∀ a x, wipe (sg a x) vs = wipe σ vs)
    (ht : ∀ a ∈ l, ∀ x H2, Ex H H2 → Fx a x H2 → Evl.EvT tt (sg a x) H2 (pf a))
    (he : ∀ a ∈ l, pf a = true → ∀ x H2, Ex H H2 → Fx a x H2 → ∀ s0 H0 C cl fp, EX (EW (Bk X scope s0 H0 C cl fp) elt) (sg a x) H2 (R a)) (hR : ∀ a y H1 H2, R a y H1 → Kt H1 H2 → R a y H2)
    (hd : ∀ p ys H', H p = none → Ex H H' → H' p = some (.lst ys) → AllR R (l.filter pf) ys H' → Q (.ref p) H') : LcG (GB X scope tg) tt (EB X scope elt) vs σ Q J H := fun D hD => by
  refine lc_it w (fun i H' => Ex H H' ∧ ∃ ys, H' D = some (.lst ys) ∧ AllR R ((l.take i).filter pf) ys H') ⟨Ex.new hD, [], upd_same, AllR.nil⟩ (fun i H' _ p => hG H' p.1) ?_ ?_
  · rintro i x H1 H2 hi ⟨e1, ys, hys, hall⟩ hyl
    obtain ⟨a, ha⟩ : ∃ a, l[i]? = some a := ⟨_, List.getElem?_eq_getElem (by omega)⟩
    have hm := List.mem_of_getElem? ha
    obtain ⟨e2, f2⟩ := hy i a x H1 H2 ha e1 hyl
    have e12 := e1.trans e2
    intro s0 H0 C cl fp
    refine hg a hm x H2 e12 f2 s0 H0 C cl fp H2 (Ex.refl H2) _ fun H3 e3 => ⟨hw a x, ht a hm x H2 e12 f2 H3 e3 _ fun H4 e4 => ?_⟩
    have f4 : Fx a x H4 := hF a x H2 H4 f2 (e3.trans e4)
    have e14 := (e2.trans e3).trans e4
    cases hp : pf a with
    | true =>
      show EB X scope elt (sg a x) H4 _
      intro s0 H0 C cl fp
      refine he a hm hp x H4 ((e12.trans e3).trans e4) f4 s0 H0 C cl fp H4 (Ex.refl H4) _ fun y H5 e5 r5 => ?_
      have hy5 := e5 _ _ (e14 _ _ hys)
      have k5 : Kt H5 (upd H5 D (.lst (ys ++ [y]))) := Kt.updL hy5
      refine ⟨ys, hy5, ?_, Ex.mut (((e12.trans e3).trans e4).trans e5) hD, ys ++ [y], upd_same, ?_⟩
      · rw [hall.1]
        have h1 := List.length_filter_le pf (l.take i)
        have h3 : (l.take i).length ≤ l.length := by
          rw [List.length_take]
          omega
        exact Evl.sz_lt (by omega)
      · rw [take_snoc ha, List.filter_append, show List.filter pf [a] = [a] by simp [hp]]
        exact AllR.snoc (hall.imp fun b z r => hR b z _ _ r ((Kt.of (e14.trans e5)).trans k5)) (hR a y _ _ r5 k5)
    | false =>
      show _ ∧ _
      refine ⟨(e12.trans e3).trans e4, ys, e14 _ _ hys, ?_⟩
      rw [take_snoc ha, List.filter_append, show List.filter pf [a] = [] by simp [hp], List.append_nil]
      exact hall.imp fun b z r => hR b z _ _ r (Kt.of e14)
  · rintro H' ⟨e1, ys, hys, hall⟩
    rw [← hn, List.take_length] at hall
    exact hd D ys H' hD e1 hys hall
/-- the iterators' beginnings -/
theorem iw_L {R : It → Hp → Prop} (q : EW X iter σ H fun x H1 => ∃ a, x = .ref a ∧ (∃ xs, SqL X.K H1 a xs) ∧ R (Itl X.K a) H1) : IW X tg iter σ H R := iw_of (pi_list pe_w) q
theorem iw_T {R : It → Hp → Prop} (q : EW X iter σ H fun x H1 => ∃ a, x = .ref a ∧ (∃ xs, SqT X.K H1 a xs) ∧ R (Itt X.K a) H1) : IW X tg iter σ H R := iw_of (pi_tup pe_w) q
theorem iw_K {R : It → Hp → Prop} (q : EW X iter σ H fun x H1 => ∃ d o, x = .ref d ∧ ((∃ kvs, H1 d = some (.frz o (.dK kvs)) ∧ R (Itk d o kvs) H1) ∨ ∃ kvs, H1 d = some (.frz o (.dT kvs)) ∧ R (Itkt d o kvs) H1)) : IW X tg iter σ H R := iw_of (pi_keys pe_w) q
/-- a statement, an expression under a lock -/
theorem sw_lock {st : Stmt} {D : Ends} (d : Addr) (u : HO) (h : H d = some u) (hm : Mut (some u)) (q : ∀ od, SW X st ⟨fun σ' H' => H' d = some (.frz od u) ∧ D.nx σ' (upd H' d u), fun v H' => H' d = some (.frz od u) ∧ D.rt v (upd H' d u), fun σ' H' => H' d = some (.frz od u) ∧ D.bk σ' (upd H' d u), fun σ' H' => H' d = some (.frz od u) ∧ D.ct σ' (upd H' d u)⟩ σ (upd H d (.frz od u))) : SW X st D σ H :=
  sw_of (ps_lock ps_w) ⟨d, u, h, hm, q⟩
theorem ew_lock {e : Expr} (d : Addr) (u : HO) (h : H d = some u) (hm : Mut (some u)) (q : ∀ od, EW X e σ (upd H d (.frz od u)) fun v H' => H' d = some (.frz od u) ∧ Q v (upd H' d u)) : EW X e σ H Q := ew_of (pe_lock pe_w) ⟨d, u, h, hm, q⟩
/-- locked and unlocked again: grown -/
theorem Ex.unlock {H' : Hp} {d : Addr} {u o : HO} (h : H d = some u) (e : Ex (upd H d o) H') : Ex H (upd H' d u) := fun b v hb => by
  by_cases z : b = d
  · rw [z] at hb ⊢
    rw [h] at hb
    rw [upd_same]
    exact hb
  · rw [upd_ne z]
    exact e b v (by rw [upd_ne z]; exact hb)
theorem ew_tup {es : List Expr} {k : Nat} (q : AW X es σ H fun vs H1 => vs.length ≤ sizeLine ∧ ∀ p, H1 p = none → Q (.ref p) (upd H1 p (.tup vs))) : EW X (.Tuple es k pos) σ H Q := ew_of (pe_tup pa_w) q
theorem ew_lst {es : List Expr} (q : AW X es σ H fun vs H1 => vs.length ≤ sizeLine ∧ ∀ p, H1 p = none → Q (.ref p) (upd H1 p (.lst vs))) : EW X (.List es pos) σ H Q := ew_of (pe_lst pa_w) q
theorem et_yes : Evl.EvT tYes σ H true := fun H1 e1 Q q => q H1 (Ex.refl H1)
theorem tv_b {e : Expr} {b : Bool} (h : ∀ s0 H0 C cl fp, TV (Bk X scope s0 H0 C cl fp) e σ H b) : Evl.EvT (TB X scope e) σ H b := fun H1 e1 Q q s0 H0 C cl fp => h s0 H0 C cl fp H1 e1 Q q
end
/-! ### a loop over the keys of a dict of pairs, under its lock -/
section
variable {X : Cx} {σ : L2.St} {H : Hp} {pos : Pos} {tg iter : Expr} {D : Ends} {sts : List Stmt}
/-- Pv by the turn, the slots, the heap in which the dict stands as ever; od: as it is locked -/
theorem sw_forK {d : Addr} {kvs : List (List Key × V)} (hp : PassesOwn (model X.prog X.w) X.A X.env X.xe) (hd : H d = some (.dT kvs)) (h : ∀ od, EV X iter σ (upd H d (.frz od (.dT kvs))) (.ref d)) (Pv : Obj → Nat → L2.St → Hp → Prop) (h0 : ∀ od H1, Ex (upd H d (.frz od (.dT kvs))) H1 → Pv od 0 σ H1) (hl : ∀ od i σ' H', Pv od i σ' H' → H' d = some (.frz od (.dT kvs)))
    (hs : ∀ od (i : Nat) k v q σ' H', kvs[i]? = some (k, v) → H' q = some (.tup (k.map kV)) → Pv od i σ' H' → GW X tg (.ref q) σ' H' fun σ2 H2 => BW X sts ⟨Pv od (i + 1), fun v H' => H' d = some (.frz od (.dT kvs)) ∧ D.rt v (upd H' d (.dT kvs)), fun σ' H' => H' d = some (.frz od (.dT kvs)) ∧ D.nx σ' (upd H' d (.dT kvs)), Pv od (i + 1)⟩ σ2 H2) (hn : ∀ od σ' H', Pv od kvs.length σ' H' → D.nx σ' (upd H' d (.dT kvs)))
    (hc : X.calm = true := by rfl) (hf : ∀ x, foldedSetIterable iter X.env x = pure x := by intro _; rfl) : SW X (.For tg iter sts [] pos) D σ H := sw_lock d _ hd trivial fun od => sw_for hp (iw_K (EVgo (h od) fun H1 e1 => ⟨d, od, rfl, .inr ⟨kvs, e1 _ _ upd_same, for_it walk_keysT (Pv od) (h0 od H1 e1) (fun i σ' H' _ p => hl od i σ' H' p) (fun i x σ' H' H2 hi p y => by
    obtain ⟨rfl, k, v, q, e, rfl, hq⟩ := y
    exact hs od i k v q σ' H2 e hq p) (fun σ' H' p => ⟨hl od _ σ' H' p, hn od σ' H' p⟩)⟩⟩)) hc hf
end
end Cut


namespace Cut
open PySem PySem.Spec PyProof.Rows L2 Evl
theorem lc_of {X : Cx} {tg iter : Expr} {g : TG} {tt : TT} {te : TE} {vs : List Nat} {σ : L2.St} {H : Hp} {Q : VK} (h : IW X tg iter σ H (LcG g tt te vs σ Q)) : tLc (IW X tg iter) g tt te vs σ H Q := h
/-! ### pairs of places -/
def PrR (a : Nat × Nat) (y : V) (H : Hp) : Prop := ∃ q, y = .ref q ∧ H q = some (.tup [iV a.1, iV a.2])
theorem PrR.kt {a : Nat × Nat} {y : V} {H H' : Hp} (h : PrR a y H) (k : Kt H H') : PrR a y H' := by
  obtain ⟨q, h1, h2⟩ := h
  exact ⟨q, h1, k _ _ h2⟩
def lexP (a b : Nat × Nat) : Prop := a.1 < b.1 ∨ (a.1 = b.1 ∧ a.2 < b.2)
def prOf (H : Hp) : V → Nat × Nat
  | .ref q => (match H q with
    | some (.tup [.int i, .int j]) => (i.toNat, j.toNat)
    | _ => (0, 0))
  | _ => (0, 0)
theorem prOf_eq {H : Hp} {a : Nat × Nat} {y : V} (h : PrR a y H) : prOf H y = a := by
  obtain ⟨q, rfl, h2⟩ := h
  show (match H q with
    | some (.tup [.int i, .int j]) => (i.toNat, j.toNat)
    | _ => (0, 0)) = a
  rw [h2]
  show ((a.1 : Int).toNat, (a.2 : Int).toNat) = a
  rw [Int.toNat_natCast, Int.toNat_natCast]
theorem allR_prOf {H : Hp} : ∀ {l : List (Nat × Nat)} {ys : List V}, AllR PrR l ys H → ys.map (prOf H) = l
  | [], [], _ => rfl
  | [], y :: ys, h => by cases h.1
  | a :: l, [], h => by cases h.1
  | a :: l, y :: ys, h => by
    have h1 := prOf_eq (h.2 0 a y rfl rfl)
    have h2 : AllR PrR l ys H := ⟨Nat.succ.inj h.1, fun k b z h3 h4 => h.2 (k + 1) b z h3 h4⟩
    rw [List.map_cons, h1, allR_prOf h2]
theorem allR_mem {α : Type} {R : α → V → Hp → Prop} {H : Hp} {l : List α} {ys : List V} (h : AllR R l ys H) {y : V} (hy : y ∈ ys) : ∃ a ∈ l, R a y H := by
  obtain ⟨k, hk, e⟩ := List.mem_iff_getElem.mp hy
  have hk' : k < l.length := by rw [← h.1]; exact hk
  exact ⟨l[k], List.getElem_mem _, h.2 k l[k] y (List.getElem?_eq_getElem hk') (by rw [List.getElem?_eq_getElem hk, e])⟩
theorem allR_memL {α : Type} {R : α → V → Hp → Prop} {H : Hp} {l : List α} {ys : List V} (h : AllR R l ys H) {a : α} (ha : a ∈ l) : ∃ y ∈ ys, R a y H := by
  obtain ⟨k, hk, e⟩ := List.mem_iff_getElem.mp ha
  have hk' : k < ys.length := by rw [h.1]; exact hk
  exact ⟨ys[k], List.getElem_mem _, h.2 k a ys[k] (by rw [List.getElem?_eq_getElem hk, e]) (List.getElem?_eq_getElem hk')⟩
theorem tupI_pr {K : PySem.W.Frag} {H : Hp} {a : Nat × Nat} {y : V} (h : PrR a y H) : TupI K H y [(a.1 : Int), (a.2 : Int)] := by
  obtain ⟨q, rfl, h2⟩ := h
  exact ⟨q, rfl, SqT.of h2⟩
/-- sorted pairs -/
theorem sort_prs {K : PySem.W.Frag} {H : Hp} {l : List (Nat × Nat)} {xs ys : List V} (h : AllR PrR l xs H) (hnd : l.Nodup) (hb : ∀ a ∈ l, a.1 < 64 ∧ a.2 < 64) (hp : ys.Perm xs) (hs : ys.Pairwise (fun x y => ∀ n m, TupI K H x n → TupI K H y m → TS.code 64 n ≤ TS.code 64 m)) :
    ∃ l' : List (Nat × Nat), l'.Perm l ∧ l'.Pairwise lexP ∧ AllR PrR l' ys H := by
  have e := allR_prOf h
  have hperm : (ys.map (prOf H)).Perm l := by
    rw [← e]
    exact hp.map _
  have each : ∀ y ∈ ys, PrR (prOf H y) y H ∧ prOf H y ∈ l := fun y hy => by
    obtain ⟨a, ha, r⟩ := allR_mem h (hp.mem_iff.mp hy)
    rw [prOf_eq r]
    exact ⟨r, ha⟩
  refine ⟨ys.map (prOf H), hperm, ?_, ?_⟩
  · have hn : (ys.map (prOf H)).Pairwise (· ≠ ·) := (hperm.nodup_iff).mpr hnd
    have hn' : ys.Pairwise fun x y => prOf H x ≠ prOf H y := List.pairwise_map.mp hn
    refine List.pairwise_map.mpr ?_
    refine List.Pairwise.imp_of_mem (fun {x y} hx hy hxy => ?_) (hn'.and hs)
    obtain ⟨r1, m1⟩ := each x hx
    obtain ⟨r2, m2⟩ := each y hy
    have hc := hxy.2 _ _ (tupI_pr (K := K) r1) (tupI_pr (K := K) r2)
    have b1 := hb _ m1
    have b2 := hb _ m2
    have hne : ([((prOf H x).1 : Int), ((prOf H x).2 : Int)] : List Int) ≠ [((prOf H y).1 : Int), ((prOf H y).2 : Int)] := fun z => by
      simp only [List.cons.injEq, and_true] at z
      refine hxy.1 (Prod.ext ?_ ?_)
      · omega
      · omega
    rcases pair_lt hc hne ⟨by omega, by omega⟩ ⟨by omega, by omega⟩ ⟨by omega, by omega⟩ ⟨by omega, by omega⟩ with q | q
    · exact .inl (by omega)
    · exact .inr ⟨by omega, by omega⟩
  · refine ⟨by rw [List.length_map], fun k a y h1 h2 => ?_⟩
    rw [List.getElem?_map, h2] at h1
    cases h1
    exact (each y (List.mem_of_getElem? h2)).1
theorem valV_mem {κ : Type} [DecidableEq κ] : ∀ {kvs : List (κ × V)} {k : κ} {v : V}, (kvs.map (·.1)).Nodup → (k, v) ∈ kvs → valV kvs k = some v
  | [], _, _, _, h => by cases h
  | p :: r, k, v, hn, h => by
    rw [List.map_cons, List.nodup_cons] at hn
    rcases List.mem_cons.mp h with e | h
    · rw [← e]
      exact valV_pos rfl
    · have : ¬ p.1 = k := fun e => hn.1 (e ▸ List.mem_map_of_mem (f := (·.1)) h)
      rw [valV_neg this]
      exact valV_mem hn.2 h
/-- the pair that a key is -/
def kPr (k : List Key) : Nat × Nat := match k with
  | [.inl a, .inl b] => (a.toNat, b.toNat)
  | _ => (0, 0)
theorem kPr_kp (i j : Nat) : kPr (kp i j) = (i, j) := by
  show ((i : Int).toNat, (j : Int).toNat) = _
  rw [Int.toNat_natCast, Int.toNat_natCast]
section
variable {n : Nat} {kvs : List (List Key × V)} {f : Nat → Nat → Option V}
theorem Pd.mem (h : Pd n kvs f) {kv : List Key × V} (hk : kv ∈ kvs) : ∃ i j, i < n ∧ j < n ∧ kv.1 = kp i j ∧ f i j = some kv.2 := by
  obtain ⟨i, j, hi, hj, e⟩ := h.key kv hk
  refine ⟨i, j, hi, hj, e, ?_⟩
  rw [← h.val i j, ← e]
  exact valV_mem h.nd hk
theorem Pd.of (h : Pd n kvs f) {i j : Nat} {v : V} (e : f i j = some v) : (kp i j, v) ∈ kvs := by
  have h1 := h.val i j
  rw [e] at h1
  unfold valV at h1
  obtain ⟨p, hp, e2⟩ := Option.map_eq_some_iff.mp h1
  have h2 := List.mem_of_find?_eq_some hp
  have h3 := of_decide_eq_true (List.find?_some (p := fun kv : List Key × V => decide (kv.1 = kp i j)) hp)
  rw [← h3, ← e2]
  exact h2
/-- the pairs of the entries that a test lets by -/
theorem Pd.pairs (h : Pd n kvs f) (pf : List Key × V → Bool) : (((kvs.filter pf).map fun kv => kPr kv.1).Nodup) ∧ ∀ i j, (i, j) ∈ (kvs.filter pf).map (fun kv => kPr kv.1) ↔ ∃ v, f i j = some v ∧ pf (kp i j, v) = true := by
  refine ⟨?_, fun i j => ⟨fun hm => ?_, fun ⟨v, e, hp⟩ => ?_⟩⟩
  · have h1 : ((kvs.filter pf).map (·.1)).Nodup := List.Nodup.sublist (List.Sublist.map _ List.filter_sublist) h.nd
    have h2 := List.pairwise_map.mp h1
    refine List.pairwise_map.mpr (List.Pairwise.imp_of_mem (fun {a b} ha hb hab => ?_) h2)
    obtain ⟨i, j, _, _, e, _⟩ := h.mem (List.mem_filter.mp ha).1
    obtain ⟨i', j', _, _, e', _⟩ := h.mem (List.mem_filter.mp hb).1
    rw [e, e', kPr_kp, kPr_kp]
    intro z
    have := Prod.mk.inj z
    exact hab (by rw [e, e', this.1, this.2])
  · obtain ⟨kv, hk, e⟩ := List.mem_map.mp hm
    obtain ⟨h1, h2⟩ := List.mem_filter.mp hk
    obtain ⟨i', j', _, _, e1, e2⟩ := h.mem h1
    rw [e1, kPr_kp] at e
    obtain ⟨rfl, rfl⟩ := Prod.mk.inj e
    exact ⟨kv.2, e2, by rw [← e1]; exact h2⟩
  · exact List.mem_map.mpr ⟨(kp i j, v), List.mem_filter.mpr ⟨h.of e, hp⟩, kPr_kp i j⟩
end
/-! ### flows told as rows -/
abbrev Rw := Nat × Nat × Nat
def RowR (K : PySem.W.Frag) (t : Rw) (y : V) (H : Hp) : Prop := ∃ q a, y = .ref q ∧ H q = some (.tup [iV t.1, iV t.2.1, .ref a]) ∧ Tp K H a [.int (loA t.2.2 : Nat), .int (loB t.2.2 : Nat)]
theorem RowR.kt {K : PySem.W.Frag} {t : Rw} {y : V} {H H' : Hp} (h : RowR K t y H) (k : Kt H H') : RowR K t y H' := by
  obtain ⟨q, a, h1, h2, h3⟩ := h
  exact ⟨q, a, h1, k _ _ h2, h3.kt k⟩
def FlAt (K : PySem.W.Frag) (H : Hp) (v : V) (rows : List Rw) : Prop := ∃ p ys, v = .ref p ∧ H p = some (.tup ys) ∧ AllR (RowR K) rows ys H
theorem FlAt.kt {K : PySem.W.Frag} {H H' : Hp} {v : V} {rows : List Rw} (h : FlAt K H v rows) (k : Kt H H') : FlAt K H' v rows := by
  obtain ⟨p, ys, h1, h2, h3⟩ := h
  exact ⟨p, ys, h1, k _ _ h2, h3.imp fun a y r => r.kt k⟩
/-- the rows that tell F -/
structure FlRows (n : Nat) (F : Mx) (rows : List Rw) : Prop where
  up : rows.Pairwise fun a b => lexP (a.1, a.2.1) (b.1, b.2.1)
  iff : ∀ i j m, (i, j, m) ∈ rows ↔ i < n ∧ j < n ∧ 0 < m ∧ F i j = (m : Int)
section
variable {P : Program} {w : World} {K : PySem.W.Frag} {mg : Str → Option Value} {base : Heap} {CR CW CN CH : Addr}
def spFlow (K : PySem.W.Frag) (CR : Addr) : Sp := fun vs H Q _ => ∃ r : Addr, vs = [.ref r] ∧ ∃ bd n W F cl, RmAt CR H r bd n W F cl ∧ ∀ v rows H', Ex H H' → FlAt K H' v rows → FlRows n F rows → Q v H'
/-! Rooms.flow: slots 0 self, 1 rows, 2 pair, 3 i, 4 j -/
theorem sc_Rooms_flow : FnScope ["self", "rows", "pair", "i", "j"] ["self"] (defScope s_Rooms_flow) := ⟨rfl, rfl, rfl, by decide +kernel, rfl, by decide +kernel, by decide +kernel⟩
theorem ok_Rooms_flow (T : Tops K mg CR CW CN CH) (hlow : Has P w K mg base 2 "lowest" ["number"] (spLow K)) : HasM P w K mg base CR 3 "flow" ["self"] (spFlow K CR) := by
  refine hasM_of (k := 2) T.Rooms_flow sc_Rooms_flow (fun _ _ _ _ _ _ us hl => match us, hl with | [_], _ => rfl) (fun vs H Q E h => by
    obtain ⟨r, rfl, _⟩ := h
    rfl) ?_
  intro f cdv A outer s H0 H vs Q E E0 hr h
  obtain ⟨r, rfl, bd, n, W, F, cl, R, q⟩ := h
  have nd := (sc_Rooms_flow).nd
  have hu := hu_of hr
  obtain ⟨⟨dx, wd, cd, o1, _⟩, ⟨kvs, g, hb, hpd, hval⟩, han, hle⟩ := id R
  have nrb : r ≠ bd := ne_of o1 hb (by intro z; cases z)
  obtain ⟨_, _, fb, _⟩ := rm_fl T o1
  let pf : List Key × V → Bool := fun kv => match kv.2 with
    | .int x => decide (0 < x)
    | _ => false
  let Fx : List Key × V → V → Hp → Prop := fun kv x H => ∃ q, x = .ref q ∧ H q = some (.tup (kv.1.map kV))
  have hvF : ∀ i j v, g i j = some v → i < n ∧ j < n ∧ v = .int (max 0 (F i j)) := fun i j v e => by
    obtain ⟨hi, hj⟩ := hpd.inn e
    refine ⟨hi, hj, ?_⟩
    rcases hval i j hi hj with e2 | ⟨e2, _⟩
    · rw [e] at e2
      exact Option.some.inj e2
    · rw [e] at e2
      cases e2
  have hz : kvs.length ≤ 49 := Nat.le_trans hpd.len (Nat.mul_le_mul hle.2 hle.2)
  refine bw_cons (sw_lock bd (.dT kvs) hb trivial fun od => sw_setLcIf 1 (own := [("pair", 2)]) (lc_of (iw_K (EVgo (ev_fld (ev_name 0) (v := .ref bd) ⟨CR, dx, _, by rw [upd_ne nrb]; exact o1, T.cRooms.cl, T.nRooms.brought, rfl⟩) fun H1 e1 => ⟨bd, od, rfl, .inr ⟨kvs, e1 _ _ upd_same, ?_⟩⟩))))
  refine lc_goX (l := kvs) (pf := pf) (Fx := Fx) (R := Fx) (sg := fun _ x => [some (.ref r), none, some x, none, none]) walk_keysT (fun H2 e2 => e2 _ _ (e1 _ _ upd_same)) rfl (by omega) ?_ ?_ ?_ (fun _ _ => rfl) ?_ ?_ ?_ ?_
  · rintro i a x H2 H3 ha e2 ⟨rfl, k, v, q, e, rfl, hq⟩
    rw [ha] at e
    cases e
    exact ⟨Ex.refl _, q, rfl, hq⟩
  · rintro a x H2 H3 ⟨q, rfl, hq⟩ e
    exact ⟨q, rfl, e _ _ hq⟩
  · intro a ha x H2 e2 hx s0 H0 C cl fp
    exact gv_name 2
  · rintro a ha x H2 e2 ⟨q, rfl, hq⟩
    refine tv_b fun s0 H0 C cl fp => ?_
    obtain ⟨i, j, hi, hj, ek, ev⟩ := hpd.mem ha
    have e3 := (hvF i j _ ev).2.2
    have hv : valV kvs a.1 = some (.int (max 0 (F i j))) := by
      rw [← e3]
      exact valV_mem hpd.nd ha
    have e12 := e1.trans e2
    refine tv_is (tv_gt (ev_itemTR hu (ev_fld (ev_name 0) (v := .ref bd) ⟨CR, dx, _, e12 _ _ (by rw [upd_ne nrb]; exact o1), T.cRooms.cl, T.nRooms.brought, rfl⟩) (ev_name 2) hq (.inr ⟨od, e12 _ _ upd_same⟩) hv) ev_int) ?_
    show _ = pf a
    show _ = match a.2 with
      | .int x => decide (0 < x)
      | _ => false
    rw [e3]
  · rintro a ha hp x H2 e2 ⟨q, rfl, hq⟩ s0 H0 C cl fp
    exact EX.ev (ev_name 2) fun H3 e3 => ⟨q, rfl, e3 _ _ hq⟩
  · rintro a y H2 H3 ⟨q, rfl, hq⟩ k
    exact ⟨q, rfl, k _ _ hq⟩
  · intro p ys H2 hp e2 hys hall
    refine ⟨e2 _ _ (e1 _ _ upd_same), ?_⟩
    have e3 : Ex H (upd H2 bd (.dT kvs)) := Ex.unlock hb (e1.trans e2)
    have npb : p ≠ bd := fun z => by
      rw [z, e1 _ _ upd_same] at hp
      cases hp
    have kt2 : Kt H2 (upd H2 bd (.dT kvs)) := Kt.upd fun xs z => by
      rw [e2 _ _ (e1 _ _ upd_same)] at z
      cases z
    have hpairs := hpd.pairs pf
    generalize hprs : (kvs.filter pf).map (fun kv => kPr kv.1) = prs at hpairs
    have hallP : AllR PrR prs ys (upd H2 bd (.dT kvs)) := by
      refine ⟨by rw [← hprs, List.length_map]; exact hall.1, fun k a y h1 h2 => ?_⟩
      rw [← hprs, List.getElem?_map] at h1
      cases e : (kvs.filter pf)[k]? with
      | none => rw [e] at h1; cases h1
      | some kv =>
        rw [e] at h1
        cases h1
        obtain ⟨q, rfl, hq⟩ := hall.2 k kv y e h2
        obtain ⟨i, j, _, _, ek, _⟩ := hpd.mem (List.mem_filter.mp (List.mem_of_getElem? e)).1
        refine ⟨q, rfl, kt2 _ _ ?_⟩
        show H2 q = some (.tup [iV (kPr kv.1).1, iV (kPr kv.1).2])
        rw [ek, kPr_kp]
        rw [ek] at hq
        exact hq
    have hmem : ∀ i j, (i, j) ∈ prs ↔ i < n ∧ j < n ∧ 0 < F i j := fun i j => by
      rw [hpairs.2 i j]
      constructor
      · rintro ⟨v, ev, hp⟩
        obtain ⟨hi, hj, rfl⟩ := hvF i j v ev
        have : 0 < max 0 (F i j) := of_decide_eq_true hp
        exact ⟨hi, hj, by omega⟩
      · rintro ⟨hi, hj, h0⟩
        rcases hval i j hi hj with e | ⟨_, e⟩
        · exact ⟨_, e, decide_eq_true (show 0 < max 0 (F i j) by omega)⟩
        · omega
    have hlen : prs.length ≤ 49 := by
      rw [← hprs, List.length_map]
      exact Nat.le_trans (List.length_filter_le _ _) hz
    generalize hH3 : upd H2 bd (.dT kvs) = H3 at e3 hallP
    have hrows : H3 p = some (.lst ys) := by
      rw [← hH3, upd_ne npb]
      exact hys
    have hb64 : ∀ a ∈ prs, a.1 < 64 ∧ a.2 < 64 := fun a ha => by
      have h1 := (hmem a.1 a.2).mp ha
      omega
    refine bw_one (sw_ret (ew_Ty call_tuple_of T.b.b_tuple (aw_cons (ew_lc (own := [("i", 3), ("j", 4)]) (lc_of (iw_L (ew_B (cr_sortT (d := 2) (B := 64) (by decide)) T.b.b_sorted (aw_cons (EVgo (ev_name 1) fun H4 e4 => aw_nil ⟨p, ys, rfl, .inl (.inl (e4 _ _ hrows)), ?_, ?_, fun zs l hperm hpw nl => ?_⟩)))))))))
    · rw [hallP.1]
      omega
    · intro x hx
      obtain ⟨a, ha, hr⟩ := allR_mem hallP hx
      have hr4 := hr.kt (Kt.of e4)
      refine ⟨_, tupI_pr hr4, rfl, fun m hm => ?_⟩
      have h64 := hb64 a ha
      rcases List.mem_cons.mp hm with e | hm
      · omega
      · have := List.mem_singleton.mp hm
        omega
    · obtain ⟨prs', hp1, hp2, hp3⟩ := sort_prs (hallP.imp fun a y r => r.kt (Kt.of e4)) hpairs.1 hb64 hperm hpw
      have hmem' : ∀ a, a ∈ prs' ↔ a.1 < n ∧ a.2 < n ∧ 0 < F a.1 a.2 := fun a => by
        rw [hp1.mem_iff]
        exact hmem a.1 a.2
      refine ⟨l, rfl, ⟨zs, .inl (.inl upd_same)⟩, ?_⟩
      have e5 : Ex H4 (upd H4 l (.lst zs)) := Ex.new nl
      have hl5 : (upd H4 l (.lst zs)) l = some (.lst zs) := upd_same
      generalize upd H4 l (.lst zs) = H5 at e5 hl5
      have R5 := (R.mono e3).mono (e4.trans e5)
      have hp5 : AllR PrR prs' zs H5 := hp3.imp fun a y r => r.kt (Kt.of e5)
      refine lc_goX (l := prs') (pf := fun _ => true) (n := zs.length) (G := fun H => SqL K H l zs) (Y := YAt zs) (Fx := fun a x H => PrR a x H) (R := fun a y H => RowR K (a.1, a.2, (F a.1 a.2).toNat) y H) (sg := fun a x => [some (.ref r), some (.ref p), none, some (iV a.1), some (iV a.2)]) walk_list (fun H6 e6 => .inl (.inl (e6 _ _ hl5))) hp5.1.symm ?_ ?_ (fun a x H6 H7 h k => h.kt (Kt.of k)) ?_ (fun _ _ => rfl) (fun _ _ _ _ _ _ => et_yes) ?_ (fun a y H6 H7 h k => h.kt k) ?_
      · have := hp1.length_eq
        have := hp5.1
        omega
      · rintro i a x H6 H7 ha e6 ⟨rfl, hx⟩
        exact ⟨Ex.refl _, (hp5.2 i a x ha hx).kt (Kt.of e6)⟩
      · rintro a ha x H6 e6 ⟨t, rfl, ht⟩ s0 H0 C cl fp
        exact gv_tup2 (.inl (.inl ht)) (gv_name 3) (gv_name 4)
      · rintro a ha _ x H6 e6 hx s0 H0 C cl fp
        intro H7 e7 Q' q'
        obtain ⟨hi, hj, hpos⟩ := (hmem' a).mp ha
        obtain ⟨⟨dx', wd', cd', o6, _⟩, b6, _⟩ := (R5.mono e6).mono e7
        obtain ⟨_, _, fb6, _⟩ := rm_fl T o6
        obtain ⟨kb, hkb, hvb⟩ := b6.get hi hj
        have hvb' : valV kb (kp a.1 a.2) = some (.int (max 0 (F a.1 a.2))) := by
          cases e : valV kb (kp a.1 a.2) with
          | none =>
            rw [e] at hvb
            have := V.int.inj (show V.int 0 = .int (max 0 (F a.1 a.2)) from hvb)
            omega
          | some v =>
            rw [e] at hvb
            exact congrArg some hvb
        refine ew_tup (aw_cons (EVgo (ev_name 3) fun H8 e8 => aw_cons (EVgo (ev_name 4) fun H9 e9 => aw_cons (ew_call hlow hr (AVgo (av_cons (ev_itemT (k := kp a.1 a.2) hu (ev_fld (ev_name 0) ((fb6.mono e8).mono e9)) (evu_tup (av_cons (ev_name 3) (av_cons (ev_name 4) av_nil))) (.inl (e9 _ _ (e8 _ _ hkb))) hvb') av_nil) fun H10 e10 => ⟨(F a.1 a.2).toNat, by rw [show max 0 (F a.1 a.2) = ((F a.1 a.2).toNat : Int) by omega], fun v H11 e11 hv => aw_nil ⟨by show 3 ≤ sizeLine; decide, fun t nt => ?_⟩⟩)))))
        obtain ⟨pa, rfl, hpa⟩ := hv
        refine q' _ _ (((e8.trans e9).trans (e10.trans e11)).trans (Ex.new nt)) ⟨t, pa, rfl, upd_same, hpa.mono (Ex.new nt)⟩
      · intro p2 ys2 H6 hp2' e6 hys2 hall2
        refine aw_nil ⟨p2, ys2, rfl, .inl ⟨.inl (.inl hys2), fun t nt => ?_⟩⟩
        rw [show prs'.filter (fun _ => true) = prs' from List.filter_eq_self.mpr fun _ _ => rfl] at hall2
        refine q (.ref t) (prs'.map fun a => (a.1, a.2, (F a.1 a.2).toNat)) _ (((e3.trans (e4.trans e5)).trans e6).trans (Ex.new nt)) ⟨t, ys2, rfl, upd_same, ?_⟩ ⟨List.pairwise_map.mpr hp2, fun i j m => ?_⟩
        · refine ⟨by rw [List.length_map]; exact hall2.1, fun k t' y h1 h2 => ?_⟩
          rw [List.getElem?_map] at h1
          cases e : prs'[k]? with
          | none => rw [e] at h1; cases h1
          | some a =>
            rw [e] at h1
            cases h1
            exact (hall2.2 k a y e h2).kt (Kt.of (Ex.new nt))
        · constructor
          · intro hm
            obtain ⟨a, ha, e⟩ := List.mem_map.mp hm
            obtain ⟨h1, h2, h3⟩ := (hmem' a).mp ha
            simp only [Prod.mk.injEq] at e
            obtain ⟨z1, z2, z3⟩ := e
            subst z1 z2 z3
            exact ⟨h1, h2, by omega, by omega⟩
          · rintro ⟨h1, h2, h3, h4⟩
            refine List.mem_map.mpr ⟨(i, j), (hmem' (i, j)).mpr ⟨h1, h2, by show 0 < F i j; omega⟩, ?_⟩
            show (i, j, (F i j).toNat) = (i, j, m)
            rw [h4, Int.toNat_natCast]
end
end Cut


namespace Cut
open PySem PySem.Spec PyProof.Rows L2 Evl
/-! ### sorted whole numbers -/
theorem perm_nat {ns : List Int} {l : List Nat} (h : ns.Perm (l.map fun x : Nat => (x : Int))) : ∃ l' : List Nat, ns = l'.map (fun x : Nat => (x : Int)) ∧ l'.Perm l := by
  refine ⟨ns.map Int.toNat, ?_, ?_⟩
  · rw [List.map_map]
    have : ∀ x ∈ ns, ((fun x : Nat => (x : Int)) ∘ Int.toNat) x = x := fun x hx => by
      obtain ⟨y, _, e⟩ := List.mem_map.mp (h.mem_iff.mp hx)
      show ((x.toNat : Nat) : Int) = x
      omega
    rw [List.map_congr_left this, List.map_id']
  · have := h.map Int.toNat
    rw [List.map_map] at this
    have e : List.map (Int.toNat ∘ fun x : Nat => (x : Int)) l = l := by
      have : ∀ x ∈ l, (Int.toNat ∘ fun x : Nat => (x : Int)) x = x := fun x _ => Int.toNat_natCast x
      rw [List.map_congr_left this, List.map_id']
    rw [e] at this
    exact this
theorem iV_map (l : List Nat) : l.map iV = (l.map fun x : Nat => (x : Int)).map V.int := by
  rw [List.map_map]; rfl
theorem flat_iV (l : List Nat) : (l.map iV).all flatV = true := by
  rw [List.all_map]
  exact List.all_eq_true.mpr fun _ _ => rfl
theorem in_iV (j : Nat) : ∀ l : List Nat, inV (iV j) (l.map iV) = decide (j ∈ l)
  | [] => by simp [inV]
  | a :: l => by
    have ih := in_iV j l
    unfold inV at ih ⊢
    rw [List.map_cons, List.any_cons, ih]
    show ((a : Int) == (j : Int) || decide (j ∈ l)) = decide (j ∈ a :: l)
    by_cases h : j = a
    · subst h
      simp
    · have h1 : ((a : Int) == (j : Int)) = false := by
        rw [beq_eq_false_iff_ne]
        omega
      rw [h1, Bool.false_or, decide_eq_decide, List.mem_cons]
      exact ⟨.inr, fun z => z.resolve_left h⟩
/-- what is close to each place: unlike places, each once, either to the other -/
structure ClOk (n : Nat) (cl : Nat → List Nat) : Prop where
  in_ : ∀ i j, i < n → j ∈ cl i → j < n ∧ j ≠ i ∧ i ∈ cl j
  nd : ∀ i, i < n → (cl i).Nodup
/-- with all addresses told -/
structure RmX (CR : Addr) (H : Hp) (r wd bd cd : Addr) (n : Nat) (W F : Mx) (cl : Nat → List Nat) : Prop where
  ob : ∃ dx, H r = some (.ins CR dx (rmFs n wd bd cd))
  ne : wd ≠ bd
  wt : DnAt H wd n W
  ca : ClAt H cd n cl
  br : BrAt H bd n F
  an : Anti F
  le : 1 ≤ n ∧ n ≤ 7
section
variable {H H' : Hp} {r wd bd cd CR d : Addr} {n : Nat} {W W' F F' : Mx} {cl cl' : Nat → List Nat}
theorem RmX.at (h : RmX CR H r wd bd cd n W F cl) : RmAt CR H r bd n W F cl := by
  obtain ⟨⟨dx, h1⟩, h2, h3, h4, h5, h6, h7⟩ := h
  exact ⟨⟨dx, wd, cd, h1, h2, h3, h4⟩, h5, h6, h7⟩
theorem RmAt.x (h : RmAt CR H r bd n W F cl) : ∃ wd cd, RmX CR H r wd bd cd n W F cl := by
  obtain ⟨⟨dx, wd, cd, h1, h2, h3, h4⟩, h5, h6, h7⟩ := h
  exact ⟨wd, cd, ⟨dx, h1⟩, h2, h3, h4, h5, h6, h7⟩
theorem RmX.mono (h : RmX CR H r wd bd cd n W F cl) (e : Ex H H') : RmX CR H' r wd bd cd n W F cl := by
  obtain ⟨⟨dx, h1⟩, h2, h3, h4, h5, h6, h7⟩ := h
  exact ⟨⟨dx, e _ _ h1⟩, h2, h3.mono e, h4.mono e, h5.mono e, h6, h7⟩
theorem DnAt.congr (h : DnAt H d n W) (e : ∀ i j, i < n → j < n → W i j = W' i j) : DnAt H d n W' := by
  obtain ⟨kvs, f, h1, h2, h3⟩ := h
  exact ⟨kvs, f, h1, h2, fun i j hi hj => by rw [← e i j hi hj]; exact h3 i j hi hj⟩
theorem BrAt.congr (h : BrAt H d n W) (e : ∀ i j, i < n → j < n → W i j = W' i j) : BrAt H d n W' := by
  obtain ⟨kvs, f, h1, h2, h3⟩ := h
  exact ⟨kvs, f, h1, h2, fun i j hi hj => by rw [← e i j hi hj]; exact h3 i j hi hj⟩
theorem RmX.congr (h : RmX CR H r wd bd cd n W F cl) (e : ∀ i j, i < n → j < n → W i j = W' i j) (e' : ∀ i j, i < n → j < n → F i j = F' i j) (a : Anti F') : RmX CR H r wd bd cd n W' F' cl := by
  obtain ⟨h1, h2, h3, h4, h5, h6, h7⟩ := h
  exact ⟨h1, h2, h3.congr e, h4, h5.congr e', a, h7⟩
/-- a store to the weights -/
theorem RmX.putW {kvs : List (List Key × V)} {f : Nat → Nat → Option V} {i j : Nat} {x : Int} (h : RmX CR H r wd bd cd n W F cl) (hk : H wd = some (.dT kvs)) (hp : Pd n kvs f) (hf : ∀ i j, i < n → j < n → f i j = some (.int (W i j)) ∨ (f i j = none ∧ W i j = 0)) (hi : i < n) (hj : j < n) :
    RmX CR (upd H wd (.dT (putK kvs (kp i j) (.int x)))) r wd bd cd n (fun a b => if a = i ∧ b = j then x else W a b) F cl := by
  obtain ⟨⟨dx, h1⟩, h2, h3, ⟨cs, h4, h4', h4''⟩, ⟨kb, fb, h5, h5'⟩, h6, h7⟩ := h
  have n1 : r ≠ wd := ne_of h1 hk (by intro z; cases z)
  have n2 : cd ≠ wd := ne_of h4 hk (by intro z; cases z)
  refine ⟨⟨dx, by rw [upd_ne n1]; exact h1⟩, h2, ⟨_, _, upd_same, hp.put hi hj (.int x), fun a b ha hb => ?_⟩, ⟨cs, by rw [upd_ne n2]; exact h4, h4', fun k c e => ?_⟩, ⟨kb, fb, by rw [upd_ne (Ne.symm h2)]; exact h5, h5'⟩, h6, h7⟩
  · show (if a = i ∧ b = j then some (.int x) else f a b) = some (.int (if a = i ∧ b = j then x else W a b)) ∨ ((if a = i ∧ b = j then some (.int x) else f a b) = none ∧ (if a = i ∧ b = j then x else W a b) = 0)
    by_cases e : a = i ∧ b = j
    · rw [if_pos e, if_pos e]
      exact .inl rfl
    · rw [if_neg e, if_neg e]
      exact hf a b ha hb
  · have n3 : c ≠ wd := ne_of (h4'' k c e) hk (by intro z; cases z)
    rw [upd_ne n3]
    exact h4'' k c e
/-- one of the lists of places is another one now -/
theorem ClAt.set {cs : List Addr} {i l : Nat} {c : Addr} {ls : List Nat} (h1 : H cd = some (.lst (cs.map V.ref))) (h2 : cs.length = n) (h3 : ∀ (k : Nat) (c : Addr), cs[k]? = some c → H c = some (.lst ((cl k).map iV))) (hi : i < n) (hc : H c = some (.lst (ls.map iV))) (hn : 0 < n) :
    ClAt (upd H cd (.lst ((cs.map V.ref).set i (.ref c)))) cd n (fun k => if k = i then ls else cl k) := by
  have ncd : ∀ {c : Addr} {ls : List Nat}, H c = some (.lst (ls.map iV)) → c ≠ cd := fun {c ls} h z => by
    rw [z, h1] at h
    have h' := HO.lst.inj (Option.some.inj h)
    cases cs with
    | nil =>
      rw [List.length_nil] at h2
      omega
    | cons x r =>
      cases ls with
      | nil => cases h'
      | cons y s => cases h'
  refine ⟨cs.set i c, by rw [upd_same, List.map_set], by rw [List.length_set]; exact h2, fun k c' e => ?_⟩
  show upd H cd _ c' = some (.lst ((if k = i then ls else cl k).map iV))
  by_cases hk : k = i
  · subst hk
    rw [List.getElem?_set_self (by omega)] at e
    cases e
    rw [if_pos rfl, upd_ne (ncd hc)]
    exact hc
  · rw [List.getElem?_set_ne (Ne.symm hk)] at e
    rw [if_neg hk, upd_ne (ncd (h3 k c' e))]
    exact h3 k c' e
theorem RmX.close (h : RmX CR H r wd bd cd n W F cl) (k : Km [cd] H H') (c : ClAt H' cd n cl') : RmX CR H' r wd bd cd n W F cl' := by
  obtain ⟨⟨dx, h1⟩, h2, ⟨kw, fw, h3, h3'⟩, ⟨cs, h4, h4'⟩, ⟨kb, fb, h5, h5'⟩, h6, h7⟩ := h
  have nn : ∀ {p : Addr} {o : HO}, H p = some o → (∀ xs, o ≠ .lst xs) → p ∉ [cd] := fun {p o} hp ho z => by
    rw [List.mem_singleton.mp z, h4] at hp
    exact ho _ (Option.some.inj hp).symm
  exact ⟨⟨dx, k _ _ h1 (nn h1 fun _ z => by cases z)⟩, h2, ⟨kw, fw, k _ _ h3 (nn h3 fun _ z => by cases z), h3'⟩, c, ⟨kb, fb, k _ _ h5 (nn h5 fun _ z => by cases z), h5'⟩, h6, h7⟩
end
section
variable {P : Program} {w : World} {K : PySem.W.Frag} {mg : Str → Option Value} {base : Heap} {CR CW CN CH : Addr}
theorem ew_cat {X : Cx} {σ : L2.St} {H : Hp} {pos : Pos} {a b : Expr} {Q : VK} (h : EW X a σ H fun x H1 => EW X b σ H1 fun y H2 => rCat x y H2 Q) : EW X (.BinOp a .Add b pos) σ H Q := ew_of (pe_op op_cat pe_w pe_w) h
def spMeet (CR : Addr) : Sp := fun vs H Q _ => ∃ (r : Addr) (i j : Nat), vs = [.ref r, .int (i : Int), .int (j : Int)] ∧ ∃ wd bd cd n W F cl, RmX CR H r wd bd cd n W F cl ∧ ClOk n cl ∧ i < n ∧ j < n ∧ i ≠ j ∧
  ∀ H' cl', RmX CR H' r wd bd cd n W F cl' → ClOk n cl' → (∀ a b, a < n → b ∈ cl a → b ∈ cl' a) → j ∈ cl' i → i ∈ cl' j → Km [cd] H H' → Q .non H'
/-! Rooms.meet: slots 0 self, 1 i, 2 j -/
theorem sc_Rooms_meet : FnScope ["self", "i", "j"] ["self", "i", "j"] (defScope s_Rooms_meet) := ⟨rfl, rfl, rfl, by decide +kernel, rfl, by decide +kernel, by decide +kernel⟩
theorem ok_Rooms_meet (T : Tops K mg CR CW CN CH) : HasM P w K mg base CR 1 "meet" ["self", "i", "j"] (spMeet CR) := by
  refine hasM_of (k := 0) T.Rooms_meet sc_Rooms_meet (fun _ _ _ _ _ _ us hl => match us, hl with | [_, _, _], _ => rfl) (fun vs H Q E h => by
    obtain ⟨r, i, j, rfl, _⟩ := h
    rfl) ?_
  intro f cdv A outer s H0 H vs Q E E0 hr h
  obtain ⟨r, i, j, rfl, wd, bd, cd, n, W, F, cl, R, ok, hi, hj, hij, q⟩ := h
  have nd := (sc_Rooms_meet).nd
  have hn : 0 < n := R.le.1
  obtain ⟨⟨dx, o1⟩, _, _, ⟨cs, c1, c2, c3⟩, _, _, _⟩ := id R
  obtain ⟨_, _, _, fc⟩ := rm_fl T o1
  have gi : ∀ {i}, i < n → ∃ c, cs[i]? = some c ∧ (cs.map V.ref)[i]? = some (.ref c) ∧ H c = some (.lst ((cl i).map iV)) := fun {i} hi => by
    have h : i < cs.length := by omega
    refine ⟨cs[i], List.getElem?_eq_getElem h, ?_, c3 i _ (List.getElem?_eq_getElem h)⟩
    rw [List.getElem?_map, List.getElem?_eq_getElem h]
    rfl
  obtain ⟨ci, i1, i2, i3⟩ := gi hi
  obtain ⟨cj, j1, j2, j3⟩ := gi hj
  have len7 : ∀ {i}, i < n → (cl i).length ≤ 7 := fun {i} hi => Nat.le_trans (nodup_lt n (cl i) (ok.nd i hi) fun x hx => (ok.in_ i x hi hx).1) R.le.2
  refine bw_one (sw_ifV (tv_niS (x := iV j) (ev_name 2) (ev_ixLn i (ev_fld (ev_name 0) fc) (ev_name 1) (.inl (.inl c1)) i2) (.inl (.inl (.inl i3))) rfl (flat_iV _)) ?_ ?_)
  · rw [in_iV]
    intro hb H1 e1
    have hjn : j ∉ cl i := by simpa using hb
    have hin : i ∉ cl j := fun z => hjn (ok.in_ j i hj z).2.2
    -- self.close[i] = sorted(self.close[i] + [j])
    refine bw_cons (sw_setL (ew_B cr_sorted T.b.b_sorted (aw_cons (ew_cat (EVgo (ev_ixLn i (ev_fld (ev_name 0) (fc.mono e1)) (ev_name 1) (.inl (.inl (e1 _ _ c1))) i2) fun H2 e2 => ELgo (evl_lst (av_cons (ev_name 2) av_nil)) fun t H3 nt e3 ht => ⟨ci, t, _, _, rfl, rfl, e3 _ _ (e2 _ _ (e1 _ _ i3)), ht, ?_, fun p np => aw_nil ⟨p, (cl i ++ [j]).map (fun x : Nat => (x : Int)), rfl, .inl (.inl ?_), ?_, fun ns' p2 hperm hsrt np2 => ?_⟩⟩)))))
    · exact Evl.sz_of (by have := len7 hi; simp; omega)
    · rw [upd_same, List.map_map, List.map_append]
      rfl
    · have := len7 hi
      simp
      omega
    · obtain ⟨l1, rfl, hp1⟩ := perm_nat hperm
      have e04 : Ex H (upd (upd H3 p (.lst ((cl i).map iV ++ [.int (j : Int)]))) p2 (.lst (List.map V.int (List.map (fun x : Nat => (x : Int)) l1)))) := (((e1.trans e2).trans e3).trans (Ex.new np)).trans (Ex.new np2)
      rw [← iV_map] at e04 ⊢
      generalize hH4 : upd (upd H3 p (.lst ((cl i).map iV ++ [.int (j : Int)]))) p2 (.lst (l1.map iV)) = H4 at e04
      have hp2 : H4 p2 = some (.lst (l1.map iV)) := by rw [← hH4]; exact upd_same
      refine EVgo (ev_fld (ev_name 0) (fc.mono e04)) fun H5 e5 => EVgo (ev_name 1) fun H6 e6 => ⟨cd, _, _, i, rfl, rfl, e6 _ _ (e5 _ _ (e04 _ _ c1)), Evl.ixN_nat (by rw [List.length_map]; omega), ?_⟩
      have e06 := (e04.trans e5).trans e6
      have k1 : Km [cd] H (upd H6 cd (.lst ((cs.map V.ref).set i (.ref p2)))) := (Km.of e06).upd (by simp)
      have ca1 : ClAt (upd H6 cd (.lst ((cs.map V.ref).set i (.ref p2)))) cd n (fun k => if k = i then l1 else cl k) := ClAt.set (l := 0) (e06 _ _ c1) c2 (fun k c e => e06 _ _ (c3 k c e)) hi (e6 _ _ (e5 _ _ hp2)) hn
      have R1 := R.close k1 ca1
      generalize upd H6 cd (.lst ((cs.map V.ref).set i (.ref p2))) = H7 at k1 ca1 R1
      -- self.close[j] = sorted(self.close[j] + [i])
      obtain ⟨⟨dx', o1'⟩, _, _, ⟨cs', c1', c2', c3'⟩, _, _, _⟩ := id R1
      obtain ⟨_, _, _, fc'⟩ := rm_fl T o1'
      have hjl : j < cs'.length := by omega
      have j3' := c3' j _ (List.getElem?_eq_getElem hjl)
      replace j3' : H7 cs'[j] = some (.lst ((if j = i then l1 else cl j).map iV)) := j3'
      rw [show (if j = i then l1 else cl j) = cl j from if_neg (Ne.symm hij)] at j3'
      refine bw_one (sw_setL (ew_B cr_sorted T.b.b_sorted (aw_cons (ew_cat (EVgo (ev_ixLn j (ev_fld (ev_name 0) fc') (ev_name 2) (.inl (.inl c1')) (by rw [List.getElem?_map, List.getElem?_eq_getElem hjl]; rfl)) fun H8 e8 => ELgo (evl_lst (av_cons (ev_name 1) av_nil)) fun t H9 nt e9 ht => ⟨cs'[j], t, _, _, rfl, rfl, e9 _ _ (e8 _ _ j3'), ht, ?_, fun p np => aw_nil ⟨p, (cl j ++ [i]).map (fun x : Nat => (x : Int)), rfl, .inl (.inl ?_), ?_, fun ns' p3 hperm hsrt np3 => ?_⟩⟩)))))
      · exact Evl.sz_of (by have := len7 hj; simp; omega)
      · rw [upd_same, List.map_map, List.map_append]
        rfl
      · have := len7 hj
        simp
        omega
      · obtain ⟨l2, rfl, hp2⟩ := perm_nat hperm
        have e0a : Ex H7 (upd (upd H9 p (.lst ((cl j).map iV ++ [.int (i : Int)]))) p3 (.lst (List.map V.int (List.map (fun x : Nat => (x : Int)) l2)))) := ((e8.trans e9).trans (Ex.new np)).trans (Ex.new np3)
        rw [← iV_map] at e0a ⊢
        generalize hHa : upd (upd H9 p (.lst ((cl j).map iV ++ [.int (i : Int)]))) p3 (.lst (l2.map iV)) = Ha at e0a
        have hp3 : Ha p3 = some (.lst (l2.map iV)) := by rw [← hHa]; exact upd_same
        refine EVgo (ev_fld (ev_name 0) (fc'.mono e0a)) fun Hb eb => EVgo (ev_name 2) fun Hc ec => ⟨cd, _, _, j, rfl, rfl, ec _ _ (eb _ _ (e0a _ _ c1')), Evl.ixN_nat (by rw [List.length_map]; omega), ?_⟩
        have e0c := (e0a.trans eb).trans ec
        have k2 : Km [cd] H7 (upd Hc cd (.lst ((cs'.map V.ref).set j (.ref p3)))) := (Km.of e0c).upd (by simp)
        have ca2 : ClAt (upd Hc cd (.lst ((cs'.map V.ref).set j (.ref p3)))) cd n (fun k => if k = j then l2 else if k = i then l1 else cl k) := ClAt.set (l := 0) (e0c _ _ c1') c2' (fun k c e => e0c _ _ (c3' k c e)) hj (ec _ _ (eb _ _ hp3)) hn
        have m1 : ∀ x, x ∈ l1 ↔ x ∈ cl i ∨ x = j := fun x => by rw [hp1.mem_iff]; simp
        have m2 : ∀ x, x ∈ l2 ↔ x ∈ cl j ∨ x = i := fun x => by rw [hp2.mem_iff]; simp
        have mem : ∀ a x, x ∈ (if a = j then l2 else if a = i then l1 else cl a) ↔ x ∈ cl a ∨ (a = i ∧ x = j) ∨ (a = j ∧ x = i) := fun a x => by
          by_cases ha : a = j
          · subst ha
            rw [if_pos rfl, m2]
            exact ⟨fun z => z.elim .inl fun z => .inr (.inr ⟨rfl, z⟩), fun z => z.elim .inl fun z => z.elim (fun z => absurd z.1.symm hij) fun z => .inr z.2⟩
          · rw [if_neg ha]
            by_cases hb : a = i
            · subst hb
              rw [if_pos rfl, m1]
              exact ⟨fun z => z.elim .inl fun z => .inr (.inl ⟨rfl, z⟩), fun z => z.elim .inl fun z => z.elim (fun z => .inr z.2) fun z => absurd z.1 ha⟩
            · rw [if_neg hb]
              exact ⟨.inl, fun z => z.elim id fun z => z.elim (fun z => absurd z.1 hb) fun z => absurd z.1 ha⟩
        refine q _ _ (R1.close k2 ca2) ⟨fun a b ha hb => ?_, fun a ha => ?_⟩ (fun a b ha hb => (mem a b).mpr (.inl hb)) ((mem i j).mpr (.inr (.inl ⟨rfl, rfl⟩))) ((mem j i).mpr (.inr (.inr ⟨rfl, rfl⟩))) (k1.trans k2)
        · rcases (mem a b).mp hb with z | ⟨rfl, rfl⟩ | ⟨rfl, rfl⟩
          · obtain ⟨z1, z2, z3⟩ := ok.in_ a b ha z
            exact ⟨z1, z2, (mem b a).mpr (.inl z3)⟩
          · exact ⟨hj, Ne.symm hij, (mem b a).mpr (.inr (.inr ⟨rfl, rfl⟩))⟩
          · exact ⟨hi, hij, (mem b a).mpr (.inr (.inl ⟨rfl, rfl⟩))⟩
        · show (if a = j then l2 else if a = i then l1 else cl a).Nodup
          by_cases hb : a = j
          · rw [if_pos hb]
            refine hp2.nodup_iff.mpr ?_
            rw [List.nodup_append]
            exact ⟨ok.nd j hj, by simp, fun x hx y hy => by
              rw [List.mem_singleton.mp hy]
              exact fun z => hin (z ▸ hx)⟩
          · rw [if_neg hb]
            by_cases hc : a = i
            · rw [if_pos hc]
              refine hp1.nodup_iff.mpr ?_
              rw [List.nodup_append]
              exact ⟨ok.nd i hi, by simp, fun x hx y hy => by
                rw [List.mem_singleton.mp hy]
                exact fun z => hjn (z ▸ hx)⟩
            · rw [if_neg hc]
              exact ok.nd a ha
  · rw [in_iV]
    intro hb H1 e1
    have hjn : j ∈ cl i := by simpa using hb
    exact bw_nil (q H1 cl (R.mono e1) ok (fun a b _ h => h) hjn (ok.in_ i j hi hjn).2.2 (Km.of e1))
end
end Cut


namespace Cut
open PySem PySem.Spec PyProof.Rows L2 Evl
/-! ### webs as they stand -/
def wbFs (n : Nat) (wd tp : Addr) : List (Str × V) := [("many", .int (n : Int)), ("weights", .ref wd), ("ties", .ref tp)]
structure Wok (W : Mx) : Prop where
  sym : ∀ i j, W i j = W j i
  nn : ∀ i j, 0 ≤ W i j
  dia : ∀ i, W i i = 0
structure TieRows (n : Nat) (W : Mx) (rows : List Rw) : Prop where
  mem : ∀ i j m, (i, j, m) ∈ rows → i < j ∧ j < n ∧ 0 < m ∧ W i j = (m : Int)
  all : ∀ i j, i < j → j < n → W i j ≠ 0 → ∃ m, (i, j, m) ∈ rows
  len : rows.length ≤ 49
structure WbAt (K : PySem.W.Frag) (CW : Addr) (H : Hp) (wb : Addr) (n : Nat) (W : Mx) : Prop where
  ob : ∃ dx wd tp kvs g ys rows, H wb = some (.ins CW dx (wbFs n wd tp)) ∧ H wd = some (.dT kvs) ∧ Pd n kvs g ∧
    (∀ i j, i < j → j < n → (∃ v m, g i j = some v ∧ Amt K H v m ∧ W i j = ((m : Nat) : Int)) ∨ (g i j = none ∧ W i j = 0)) ∧ H tp = some (.tup ys) ∧ AllR (RowR K) rows ys H ∧ TieRows n W rows
  ok : Wok W
  le : 1 ≤ n ∧ n ≤ 7
section
variable {P : Program} {w : World} {K : PySem.W.Frag} {mg : Str → Option Value} {base : Heap} {CR CW CN CH : Addr} {H H' : Hp} {wb : Addr} {n : Nat} {W : Mx}
theorem WbAt.mono (h : WbAt K CW H wb n W) (e : Ex H H') : WbAt K CW H' wb n W := by
  obtain ⟨⟨dx, wd, tp, kvs, g, ys, rows, h1, h2, h3, h4, h5, h6, h7⟩, h8, h9⟩ := h
  refine ⟨⟨dx, wd, tp, kvs, g, ys, rows, e _ _ h1, e _ _ h2, h3, fun i j hi hj => ?_, e _ _ h5, h6.imp fun a y r => r.kt (Kt.of e), h7⟩, h8, h9⟩
  rcases h4 i j hi hj with ⟨v, m, a, b, c⟩ | q
  · exact .inl ⟨v, m, a, b.kt (Kt.of e), c⟩
  · exact .inr q
theorem wb_fl (T : Tops K mg CR CW CN CH) {H : Hp} {r dx : Addr} {n : Nat} {wd tp : Addr} (h : H r = some (.ins CW dx (wbFs n wd tp))) :
    Fl K H r "many" (.int (n : Int)) ∧ Fl K H r "weights" (.ref wd) ∧ Fl K H r "ties" (.ref tp) :=
  ⟨⟨CW, dx, _, h, T.cWeb.cl, T.nWeb.many, rfl⟩, ⟨CW, dx, _, h, T.cWeb.cl, T.nWeb.weights, rfl⟩, ⟨CW, dx, _, h, T.cWeb.cl, T.nWeb.ties, rfl⟩⟩
theorem Km.fresh {M : List Addr} {H H' : Hp} {p : Addr} (k : Km M H H') (hM : ∀ m ∈ M, H' m ≠ none) (h : H' p = none) : H p = none := by
  cases e : H p with
  | none => rfl
  | some o =>
    have hp : p ∉ M := fun z => hM p z h
    rw [k p o e hp] at h
    cases h
theorem Km.drop {M N : List Addr} {H H1 H2 : Hp} (k1 : Km M H H1) (k2 : Km N H1 H2) (h : ∀ p ∈ N, H p = none ∨ p ∈ M) : Km M H H2 := fun b o e hb => k2 b o (k1 b o e hb) fun z => by
  rcases h b z with q | q
  · rw [q] at e
    cases e
  · exact hb q
def zeM : Mx := fun _ _ => 0
/-- what is said of a new one -/
def RmNew (CR : Addr) (H H' : Hp) (r bd : Addr) (n : Nat) (W F : Mx) : Prop := ∃ wd cd cl, RmX CR H' r wd bd cd n W F cl ∧ ClOk n cl ∧ (∀ a b, a < n → b < n → W a b ≠ 0 ∨ F a b ≠ 0 → b ∈ cl a) ∧ H wd = none ∧ H cd = none
def spRmInit (K : PySem.W.Frag) (CR CW : Addr) : Sp := fun vs H Q _ => ∃ r wb, vs = [.ref r, .ref wb] ∧ ∃ dx n W, H r = some (.ins CR dx []) ∧ WbAt K CW H wb n W ∧
  ∀ H' bd, RmNew CR H H' r bd n W zeM → H bd = none → Km [r] H H' → Q .non H'
theorem Pd.none_ : Pd n [] fun _ _ => none := Pd.nil n
theorem zeM_anti : Anti zeM := fun _ _ => rfl
/-! Rooms.__init__: slots 0 self, 1 web, 2 i, 3 j, 4 weight, 5 place -/
theorem sc_Rooms_init__ : FnScope ["self", "web", "i", "j", "weight", "place"] ["self", "web"] (defScope s_Rooms_init__) := ⟨rfl, rfl, rfl, by decide +kernel, rfl, by decide +kernel, by decide +kernel⟩
theorem ok_Rooms_init (T : Tops K mg CR CW CN CH) (hp : HasM P w K mg base CR 1 "parts" ["self", "amount"] (spParts K)) (hm : HasM P w K mg base CR 1 "meet" ["self", "i", "j"] (spMeet CR)) : HasC P w K mg base CR 2 "Rooms" ["self", "web"] (spRmInit K CR CW) := by
  refine hasC_of (k := 1) T.cRooms sc_Rooms_init__ (fun _ _ _ _ _ _ us hl => match us, hl with | [_, _], _ => rfl) (fun vs H Q E h => by
    obtain ⟨r, wb, rfl, _⟩ := h
    rfl) ?_
  intro f cdv A outer s H0 H vs Q E E0 hr h
  obtain ⟨r, wb, rfl, dx, n, W, hr0, hW, q⟩ := h
  have nd := (sc_Rooms_init__).nd
  have hu := hu_of hr
  obtain ⟨⟨dw, ww, tp, kvs, g, ys, rows, o1, o2, o3, o4, o5, o6, o7⟩, o8, o9⟩ := id hW
  obtain ⟨fm, fw, ft⟩ := wb_fl T o1
  have nwr : wb ≠ r := fun z => by
    rw [z, hr0] at o1
    cases o1
  have ntr : tp ≠ r := fun z => by
    rw [z, hr0] at o5
    cases o5
  have up : ∀ {H' : Hp}, Km [r] H H' → H' wb = some (.ins CW dw (wbFs n ww tp)) := fun k => k _ _ o1 (by simpa using nwr)
  have up2 : ∀ {H' : Hp}, Km [r] H H' → H' tp = some (.tup ys) := fun k => k _ _ o5 (by simpa using ntr)
  have kt : ∀ {H' : Hp}, Km [r] H H' → Kt H H' := fun k => k.kt fun m hm ys z => by
    rw [List.mem_singleton.mp hm, hr0] at z
    cases z
  have cl := T.cRooms.cl
  refine bw_cons (sw_fld (EVgo (ev_fld (ev_name 1) fm) fun H1 e1 => EVgo (ev_name 0) fun H2 e2 => ⟨r, CR, dx, [], rfl, e2 _ _ (e1 _ _ hr0), cl, T.nRooms.size, by decide, ?_⟩))
  have k1 : Km [r] H (upd H2 r (.ins CR dx (putF "size" (.int (n : Int)) []))) := (Km.of (e1.trans e2)).upd (by simp)
  have r1 : (upd H2 r (.ins CR dx (putF "size" (.int (n : Int)) []))) r = some (.ins CR dx [("size", .int (n : Int))]) := upd_same
  generalize upd H2 r (.ins CR dx (putF "size" (.int (n : Int)) [])) = H3 at k1 r1
  refine bw_cons (sw_fld (ew_of pe_dnewT fun wd hwd => EVgo (ev_name 0) fun H4 e4 => ⟨r, CR, dx, _, rfl, e4 _ _ (Ex.new hwd _ _ r1), cl, T.nRooms.weights, by simp, ?_⟩))
  have nwd : wd ≠ r := fun z => by
    rw [z, r1] at hwd
    cases hwd
  have fwd : H wd = none := k1.fresh (fun m hm => by rw [List.mem_singleton.mp hm, r1]; exact fun z => by cases z) hwd
  have k2 : Km [r] H (upd H4 r (.ins CR dx (putF "weights" (.ref wd) [("size", .int (n : Int))]))) := (k1.trans (Km.of ((Ex.new hwd).trans e4))).upd (by simp)
  have w2 : (upd H4 r (.ins CR dx (putF "weights" (.ref wd) [("size", .int (n : Int))]))) wd = some (.dT []) := by
    rw [upd_ne nwd]
    exact e4 _ _ upd_same
  have r2 : (upd H4 r (.ins CR dx (putF "weights" (.ref wd) [("size", .int (n : Int))]))) r = some (.ins CR dx [("size", .int (n : Int)), ("weights", .ref wd)]) := upd_same
  generalize upd H4 r (.ins CR dx (putF "weights" (.ref wd) [("size", .int (n : Int))])) = H5 at k2 r2 w2
  refine bw_cons (sw_fld (ew_of pe_dnewT fun bd hbd => EVgo (ev_name 0) fun H6 e6 => ⟨r, CR, dx, _, rfl, e6 _ _ (Ex.new hbd _ _ r2), cl, T.nRooms.brought, by simp, ?_⟩))
  have nbd : bd ≠ r := fun z => by
    rw [z, r2] at hbd
    cases hbd
  have nbw : wd ≠ bd := fun z => by
    rw [← z, w2] at hbd
    cases hbd
  have fbd : H bd = none := k2.fresh (fun m hm => by rw [List.mem_singleton.mp hm, r2]; exact fun z => by cases z) hbd
  have k3 : Km [r] H (upd H6 r (.ins CR dx (putF "brought" (.ref bd) [("size", .int (n : Int)), ("weights", .ref wd)]))) := (k2.trans (Km.of ((Ex.new hbd).trans e6))).upd (by simp)
  have w3 : (upd H6 r (.ins CR dx (putF "brought" (.ref bd) [("size", .int (n : Int)), ("weights", .ref wd)]))) wd = some (.dT []) := by
    rw [upd_ne nwd]
    exact e6 _ _ (Ex.new hbd _ _ w2)
  have b3 : (upd H6 r (.ins CR dx (putF "brought" (.ref bd) [("size", .int (n : Int)), ("weights", .ref wd)]))) bd = some (.dT []) := by
    rw [upd_ne nbd]
    exact e6 _ _ upd_same
  have r3 : (upd H6 r (.ins CR dx (putF "brought" (.ref bd) [("size", .int (n : Int)), ("weights", .ref wd)]))) r = some (.ins CR dx [("size", .int (n : Int)), ("weights", .ref wd), ("brought", .ref bd)]) := upd_same
  generalize upd H6 r (.ins CR dx (putF "brought" (.ref bd) [("size", .int (n : Int)), ("weights", .ref wd)])) = H7 at k3 r3 w3 b3
  -- the lists of close places
  refine bw_cons (sw_fld (ew_lc (own := [("place", 5)]) (lcR T.b.b_range (ev_fld (ev_name 1) (wb_fl T (up k3)).1) (by omega)
    (fun D i H' => H7 D = none ∧ Ex H7 H' ∧ ∃ cs : List Addr, H' D = some (.lst (cs.map V.ref)) ∧ cs.length = i ∧ ∀ (k : Nat) (c : Addr), cs[k]? = some c → c ≠ D ∧ H' c = some (.lst [])) ?_ ?_ ?_)))
  · intro D H1 e1 hD
    have hD' := Evl.fresh_back e1 hD
    exact ⟨hD', Ex.mut e1 hD', [], upd_same, rfl, fun k c z => by simp at z⟩
  · rintro D i H' hi ⟨hD, e1, cs, h1, h2, h3⟩ s0 H0 C clo fp
    refine gw_name 5 ⟨rfl, iteT (B := False) fun s0 H0 C clo fp => ELgo (evl_lst av_nil) fun c H8 nc e8 hc => ⟨_, e8 _ _ h1, by rw [List.length_map, h2]; exact Evl.sz_lt (by omega), hD, Ex.mut (e1.trans e8) hD, cs ++ [c], ?_, by rw [List.length_append, h2] <;> rfl, fun k c' hk => ?_⟩⟩
    · rw [upd_same, List.map_append]; rfl
    · have ncD : c ≠ D := fun z => by
        rw [z, h1] at nc
        cases nc
      by_cases hkl : k < cs.length
      · rw [List.getElem?_append_left hkl] at hk
        obtain ⟨a1, a2⟩ := h3 k c' hk
        exact ⟨a1, by rw [upd_ne a1]; exact e8 _ _ a2⟩
      · rw [List.getElem?_append_right (by omega)] at hk
        cases e : k - cs.length with
        | zero =>
          rw [e] at hk
          cases hk
          exact ⟨ncD, by rw [upd_ne ncD]; exact hc⟩
        | succ j =>
          rw [e] at hk
          simp at hk
  · rintro cd H8 ⟨hcd, e8, cs, h1, h2, h3⟩
    refine EVgo (ev_name 0) fun H9 e9 => ⟨r, CR, dx, _, rfl, e9 _ _ (e8 _ _ r3), cl, T.nRooms.close, by simp, ?_⟩
    have ncr : cd ≠ r := fun z => by
      rw [z, r3] at hcd
      cases hcd
    have fcd : H cd = none := k3.fresh (fun m hm => by rw [List.mem_singleton.mp hm, r3]; exact fun z => by cases z) hcd
    have k4 : Km [r] H (upd H9 r (.ins CR dx (putF "close" (.ref cd) [("size", .int (n : Int)), ("weights", .ref wd), ("brought", .ref bd)]))) := (k3.trans (Km.of (e8.trans e9))).upd (by simp)
    have R4 : RmX CR (upd H9 r (.ins CR dx (putF "close" (.ref cd) [("size", .int (n : Int)), ("weights", .ref wd), ("brought", .ref bd)]))) r wd bd cd n zeM zeM (fun _ => []) := by
      refine ⟨⟨dx, upd_same⟩, nbw, ⟨[], _, by rw [upd_ne nwd]; exact e9 _ _ (e8 _ _ w3), Pd.nil n, fun i j _ _ => .inr ⟨rfl, rfl⟩⟩, ⟨cs, by rw [upd_ne ncr]; exact e9 _ _ h1, h2, fun i c hc => ?_⟩, ⟨[], _, by rw [upd_ne nbd]; exact e9 _ _ (e8 _ _ b3), Pd.nil n, fun i j _ _ => .inr ⟨rfl, rfl⟩⟩, zeM_anti, o9⟩
      obtain ⟨a1, a2⟩ := h3 i c hc
      have : c ≠ r := fun z => by
        rw [z, e8 _ _ r3] at a2
        cases a2
      rw [upd_ne this]
      exact e9 _ _ a2
    generalize upd H9 r (.ins CR dx (putF "close" (.ref cd) [("size", .int (n : Int)), ("weights", .ref wd), ("brought", .ref bd)])) = Ha at k4 R4
    refine bw_one (sw_forT PassesOwn.never (xs := ys) (ev_fld (ev_name 1) (wb_fl T (up k4)).2.2) (SqT.of (up2 k4)) (fun k σ' H' => ∃ zi zj zw G cl, σ' = [some (.ref r), some (.ref wb), zi, zj, zw, none] ∧ RmX CR H' r wd bd cd n G zeM cl ∧ ClOk n cl ∧ (∀ a b, a < n → b < n → G a b ≠ 0 → b ∈ cl a) ∧ Km [r] H H' ∧ (∀ a b, a < n → b < n → G a b = W a b ∨ G a b = 0) ∧ ∀ t ∈ rows.take k, G t.1 t.2.1 = W t.1 t.2.1 ∧ G t.2.1 t.1 = W t.1 t.2.1) ?_ ?_ ?_ ?_)
    · intro H1 e1
      exact ⟨_, _, _, zeM, fun _ => [], rfl, R4.mono e1, ⟨fun i j _ h => by simp at h, fun _ _ => List.nodup_nil⟩, fun a b _ _ h => absurd rfl h, k4.trans (Km.of e1), fun a b _ _ => .inr rfl, fun t ht => by simp at ht⟩
    · rintro i σ' H' _ ⟨_, _, _, _, _, _, _, _, _, k, _⟩
      exact SqT.of (up2 k)
    · rintro k x σ' H' hk ⟨zi, zj, zw, G, cl', rfl, R5, ok5, cov5, k5, g5, d5⟩
      obtain ⟨t, ht⟩ : ∃ t, rows[k]? = some t := by
        have := (List.getElem?_eq_some_iff.mp hk).1
        rw [o6.1] at this
        exact ⟨_, List.getElem?_eq_getElem this⟩
      obtain ⟨i, j, m⟩ := t
      obtain ⟨p, pa, rfl, hp1, hp2⟩ := (o6.2 k _ x ht hk).kt (kt k5)
      obtain ⟨hij, hjn, hm0, hWm⟩ := o7.mem i j m (List.mem_of_getElem? ht)
      have hin : i < n := Nat.lt_trans hij hjn
      refine gw_tup (n := 3) (SqT.of hp1) (gws_cons (gw_name 2 (gws_cons (gw_name 3 (gws_cons (gw_name 4 (gws_nil ?_)))))))
      obtain ⟨⟨dxx, ob5⟩, _⟩ := id R5
      have small : ∀ {kvs : List (List Key × V)} {f : Nat → Nat → Option V}, Pd n kvs f → kvs.length < 1000 := fun h => by
        have h1 := h.len
        have h2 := Nat.mul_le_mul o9.2 o9.2
        omega
      obtain ⟨_, f5, _, _⟩ := rm_fl T ob5
      refine bw_cons (sw_dput hu (EVgo (ev_meth hp cl hr (ev_name 0) ob5 rfl (av_cons (ev_name 4) av_nil) (fun H1 e1 => ⟨_, _, rfl, m, Amt.s ⟨pa, rfl, hp2.kt (Kt.of e1)⟩, rfl⟩)) fun Hb eb => EVgo (ev_fld (ev_name 0) (f5.mono eb)) fun Hc ec => EUgo (evu_tup (av_cons (ev_name 2) (av_cons (ev_name 3) av_nil))) fun tt Hd nt ed ht2 => ?_))
      have e5 := (eb.trans ec).trans ed
      obtain ⟨kv1, f1, w1, w1', w1''⟩ := (R5.mono e5).wt
      refine ⟨wd, _, rfl, DPut.t (k := kp i j) w1 ht2 (Pd.small w1' (Nat.le_trans o9.2 (by decide))), ?_⟩
      have R6 := (R5.mono e5).putW w1 w1' w1'' hin hjn (x := m)
      have k6 : Km [wd] H' (upd Hd wd (.dT (putK kv1 (kp i j) (.int (m : Int))))) := (Km.of e5).upd (by simp)
      have t6 : Kt H' (upd Hd wd (.dT (putK kv1 (kp i j) (.int (m : Int))))) := (Kt.of e5).trans (Kt.upd fun xs z => by
        rw [w1] at z
        cases z)
      generalize upd Hd wd (.dT (putK kv1 (kp i j) (.int (m : Int)))) = H6 at k6 t6 R6
      obtain ⟨⟨dx6, ob6⟩, _⟩ := id R6
      obtain ⟨_, f6, _, _⟩ := rm_fl T ob6
      refine bw_cons (sw_dput hu (EVgo (ev_meth hp cl hr (ev_name 0) ob6 rfl (av_cons (ev_name 4) av_nil) (fun H1 e1 => ⟨_, _, rfl, m, Amt.s ⟨pa, rfl, (hp2.kt t6).kt (Kt.of e1)⟩, rfl⟩)) fun Hb eb => EVgo (ev_fld (ev_name 0) (f6.mono eb)) fun Hc ec => EUgo (evu_tup (av_cons (ev_name 3) (av_cons (ev_name 2) av_nil))) fun tt Hd nt ed ht2 => ?_))
      have e6 := (eb.trans ec).trans ed
      obtain ⟨kv2, f2, w2, w2', w2''⟩ := (R6.mono e6).wt
      refine ⟨wd, _, rfl, DPut.t (k := kp j i) w2 ht2 (Pd.small w2' (Nat.le_trans o9.2 (by decide))), ?_⟩
      have R7 := (R6.mono e6).putW w2 w2' w2'' hjn hin (x := m)
      have k7 : Km [wd] H' (upd Hd wd (.dT (putK kv2 (kp j i) (.int (m : Int))))) := (k6.trans (Km.of e6)).upd (by simp)
      generalize upd Hd wd (.dT (putK kv2 (kp j i) (.int (m : Int)))) = H7' at k7 R7
      obtain ⟨⟨dx7, ob7⟩, _⟩ := id R7
      have hne : i ≠ j := by omega
      refine bw_one (sw_expr (ew_meth hm cl hr (EVgo (ev_name 0) fun Hb eb => ⟨r, dx7, _, rfl, eb _ _ ob7, rfl, AVgo (av_cons (ev_name 2) (av_cons (ev_name 3) av_nil)) fun Hc ec => ⟨r, i, j, rfl, wd, bd, cd, n, _, _, cl', R7.mono (eb.trans ec), ok5, hin, hjn, hne, fun H9' cl9 R9 ok9 m9 mi mj k9 => ⟨_, _, _, _, cl9, rfl, R9, ok9, fun a b ha hb hne0 => ?_, ?_, fun a b ha hb => ?_, fun t ht2 => ?_⟩⟩⟩)))
      · by_cases c1 : a = j ∧ b = i
        · rw [c1.1, c1.2]
          exact mj
        · by_cases c2 : a = i ∧ b = j
          · rw [c2.1, c2.2]
            exact mi
          · replace hne0 : (if a = j ∧ b = i then (m : Int) else if a = i ∧ b = j then (m : Int) else G a b) ≠ 0 := hne0
            rw [if_neg c1, if_neg c2] at hne0
            exact m9 a b ha (cov5 a b ha hb hne0)
      · exact ((k5.drop k7 (by simp [fwd])).trans (Km.of (eb.trans ec))).drop k9 (by simp [fcd])
      · show (if a = j ∧ b = i then (m : Int) else if a = i ∧ b = j then (m : Int) else G a b) = W a b ∨ (if a = j ∧ b = i then (m : Int) else if a = i ∧ b = j then (m : Int) else G a b) = 0
        by_cases c1 : a = j ∧ b = i
        · rw [if_pos c1, c1.1, c1.2, o8.sym j i, hWm]
          exact .inl rfl
        · by_cases c2 : a = i ∧ b = j
          · rw [if_neg c1, if_pos c2, c2.1, c2.2, hWm]
            exact .inl rfl
          · rw [if_neg c1, if_neg c2]
            exact g5 a b ha hb
      · show (if t.1 = j ∧ t.2.1 = i then (m : Int) else if t.1 = i ∧ t.2.1 = j then (m : Int) else G t.1 t.2.1) = W t.1 t.2.1 ∧ (if t.2.1 = j ∧ t.1 = i then (m : Int) else if t.2.1 = i ∧ t.1 = j then (m : Int) else G t.2.1 t.1) = W t.1 t.2.1
        rw [take_snoc ht] at ht2
        have key : ∀ a b, (if a = j ∧ b = i then (m : Int) else if a = i ∧ b = j then (m : Int) else G a b) = W a b ∨ (¬ (a = j ∧ b = i) ∧ ¬ (a = i ∧ b = j) ∧ (if a = j ∧ b = i then (m : Int) else if a = i ∧ b = j then (m : Int) else G a b) = G a b) := fun a b => by
          by_cases c1 : a = j ∧ b = i
          · rw [if_pos c1, c1.1, c1.2, o8.sym j i, hWm]
            exact .inl rfl
          · by_cases c2 : a = i ∧ b = j
            · rw [if_neg c1, if_pos c2, c2.1, c2.2, hWm]
              exact .inl rfl
            · rw [if_neg c1, if_neg c2]
              exact .inr ⟨c1, c2, rfl⟩
        have hs := o8.sym t.2.1 t.1
        rcases List.mem_append.mp ht2 with h | h
        · have hd := d5 t h
          constructor
          · rcases key t.1 t.2.1 with e | ⟨_, _, e⟩
            · exact e
            · rw [e]
              exact hd.1
          · rcases key t.2.1 t.1 with e | ⟨_, _, e⟩
            · rw [e]
              exact hs
            · rw [e]
              exact hd.2
        · have := List.mem_singleton.mp h
          subst this
          constructor
          · rcases key i j with e | ⟨_, c, _⟩
            · exact e
            · exact absurd ⟨rfl, rfl⟩ c
          · rcases key j i with e | ⟨c, _, _⟩
            · rw [e]
              exact hs
            · exact absurd ⟨rfl, rfl⟩ c
    · rintro σ' H' ⟨zi, zj, zw, G, cl', rfl, R5, ok5, cov5, k5, g5, d5⟩
      have d5' : ∀ t ∈ rows, G t.1 t.2.1 = W t.1 t.2.1 ∧ G t.2.1 t.1 = W t.1 t.2.1 := fun t ht => d5 t (by
        rw [o6.1, List.take_length]
        exact ht)
      have eq : ∀ a b, a < n → b < n → G a b = W a b := fun a b ha hb => by
        rcases g5 a b ha hb with e | e
        · exact e
        · by_cases hz : W a b = 0
          · rw [e, hz]
          · have hab : a ≠ b := fun z => hz (by rw [z]; exact o8.dia b)
            by_cases hlt : a < b
            · obtain ⟨m, hm⟩ := o7.all a b hlt hb hz
              exact (d5' _ hm).1
            · obtain ⟨m, hm⟩ := o7.all b a (by omega) ha (by rw [o8.sym]; exact hz)
              rw [(d5' _ hm).2]
              exact o8.sym b a
      refine q H' bd ⟨wd, cd, cl', R5.congr eq (fun _ _ _ _ => rfl) zeM_anti, ok5, fun a b ha hb hne => cov5 a b ha hb ?_, fwd, fcd⟩ fbd k5
      rcases hne with e | e
      · rw [eq a b ha hb]
        exact e
      · exact absurd rfl e
end
end Cut


namespace Cut
open PySem PySem.Spec PyProof.Rows L2 Evl
theorem Km.nil {H H' : Hp} (k : Km [] H H') : Ex H H' := fun b o e => k b o e (by simp)
theorem RmX.after {CR : Addr} {H H' : Hp} {r wd bd cd : Addr} {n : Nat} {W F F' : Mx} {cl : Nat → List Nat} (h : RmX CR H r wd bd cd n W F cl) (k : Km [bd] H H') (h' : RmAt CR H' r bd n W F' cl) : RmX CR H' r wd bd cd n W F' cl := by
  obtain ⟨⟨dx, h1⟩, h2, h3, h4, ⟨kb, fb, h5, _⟩, h6, h7⟩ := h
  have n1 : r ≠ bd := ne_of h1 h5 (by intro z; cases z)
  have e1 := k _ _ h1 (by simpa using n1)
  obtain ⟨⟨dx', wd', cd', o1, o2, o3, o4⟩, o5, o6, o7⟩ := h'
  rw [e1] at o1
  cases o1
  exact ⟨⟨dx, e1⟩, o2, o3, o4, o5, o6, o7⟩
section
variable {P : Program} {w : World} {K : PySem.W.Frag} {mg : Str → Option Value} {base : Heap} {CR CW CN CH : Addr}
theorem RmNew.at {CR : Addr} {H H' : Hp} {r bd : Addr} {n : Nat} {W F : Mx} (h : RmNew CR H H' r bd n W F) : ∃ cl, RmAt CR H' r bd n W F cl ∧ ClOk n cl ∧ ∀ a b, a < n → b < n → W a b ≠ 0 ∨ F a b ≠ 0 → b ∈ cl a := by
  obtain ⟨wd, cd, cl, h1, h2, h3, _⟩ := h
  exact ⟨cl, h1.at, h2, h3⟩
/-- a new Rooms, by its call -/
theorem ew_rooms {X : Cx} {σ : L2.St} {H : Hp} {pos p : Pos} {e : Expr} {k j : Nat} {Q : VK} {wb : Addr} {n : Nat} {W : Mx} (hi : HasC X.prog X.w X.K X.mg X.base CR k "Rooms" ["self", "web"] (spRmInit X.K CR CW)) (hr : Room j X.A) (he : EV X e σ H (.ref wb)) (hW : WbAt X.K CW H wb n W)
    (q : ∀ r bd H', Ex H H' → RmNew CR H H' r bd n W zeM → H bd = none → H r = none → Q (.ref r) H') (hk : k + 1 ≤ j := by decide) (hg : Gl X "Rooms" := by rfl) (hst : starEach [e] X.env = (false, eval e X.env) :: starEach [] X.env := by rfl) : EW X (.Call (.Name "Rooms" p) [e] [] pos) σ H Q := by
  refine ew_make hi hr (AVgo (av_cons he av_nil hst) fun H1 e1 y dx hy hdx hne => ⟨y, wb, rfl, dx, n, W, upd_same, hW.mono (e1.trans ((Ex.new hdx).trans (Ex.new (by rw [upd_ne (Ne.symm hne)]; exact hy)))), fun H2 bd N2 hbd k2 => ⟨rfl, ?_⟩⟩) hk hg (by decide) hst
  have e2 : Ex H1 (upd (upd H1 dx (.own y)) y (.ins CR dx [])) := (Ex.new hdx).trans (Ex.new (by rw [upd_ne (Ne.symm hne)]; exact hy))
  have fr : ∀ {p : Addr}, (upd (upd H1 dx (.own y)) y (.ins CR dx [])) p = none → H p = none := fun h => Evl.fresh_back (e1.trans e2) h
  have hy' := Evl.fresh_back e1 hy
  obtain ⟨wd, cd, cl, n1, n2, n3, n4, n5⟩ := N2
  exact q y bd H2 (Km.nil ((Km.of (M := []) (e1.trans e2)).drop k2 (by simp [hy']))) ⟨wd, cd, cl, n1, n2, n3, fr n4, fr n5⟩ (fr hbd) hy'
def spRoomsOf (K : PySem.W.Frag) (CR CW : Addr) : Sp := fun vs H Q _ => ∃ wb v, vs = [.ref wb, v] ∧ ∃ n W rows F, WbAt K CW H wb n W ∧ FlAt K H v rows ∧ FlRows n F rows ∧ Anti F ∧
  ∀ r bd H', Ex H H' → RmNew CR H H' r bd n W F → H bd = none → H r = none → Q (.ref r) H'
/-! rooms_of: slots 0 web, 1 flow, 2 rooms, 3 i, 4 j, 5 amount -/
theorem sc_rooms_of : FnScope ["web", "flow", "rooms", "i", "j", "amount"] ["web", "flow"] (defScope s_rooms_of) := ⟨rfl, rfl, rfl, by decide +kernel, rfl, by decide +kernel, by decide +kernel⟩
theorem ok_rooms_of (T : Tops K mg CR CW CN CH) (hi : HasC P w K mg base CR 2 "Rooms" ["self", "web"] (spRmInit K CR CW)) (hp : HasM P w K mg base CR 1 "parts" ["self", "amount"] (spParts K)) (hm : HasM P w K mg base CR 1 "meet" ["self", "i", "j"] (spMeet CR)) (hput : HasM P w K mg base CR 1 "put" ["self", "i", "j", "number"] (spPut CR)) : Has P w K mg base 4 "rooms_of" ["web", "flow"] (spRoomsOf K CR CW) := by
  refine has_of (k := 3) T.rooms_of sc_rooms_of (fun _ _ _ _ _ _ us hl => match us, hl with | [_, _], _ => rfl) (fun vs H Q E h => by
    obtain ⟨wb, v, rfl, _⟩ := h
    rfl) ?_
  intro f cdv A outer s H0 H vs Q E E0 hr h
  obtain ⟨wb, v, rfl, n, W, rows, F, hW, ⟨fp, ys, rfl, hys, hrows⟩, hF, hA, q⟩ := h
  have nd := (sc_rooms_of).nd
  refine bw_cons (sw_set 2 (ew_rooms hi hr (ev_name 0) hW fun r bd H1 e1 ⟨wd, cd, cl, R1, ok1, cov1, fwd, fcd⟩ fbd fr => ?_))
  refine bw_cons (sw_forT PassesOwn.never (ev_name 1) (SqT.of (e1 _ _ hys)) (fun k σ' H' => ∃ zi zj za G cl', σ' = [some (.ref wb), some (.ref fp), some (.ref r), zi, zj, za] ∧ RmX CR H' r wd bd cd n W G cl' ∧ ClOk n cl' ∧ (∀ a b, a < n → b < n → W a b ≠ 0 ∨ G a b ≠ 0 → b ∈ cl' a) ∧ Ex H H' ∧ (∀ t ∈ rows.take k, G t.1 t.2.1 = F t.1 t.2.1) ∧ ∀ a b, (∀ t ∈ rows.take k, ¬ (t.1 = a ∧ t.2.1 = b) ∧ ¬ (t.1 = b ∧ t.2.1 = a)) → G a b = 0) ?_ ?_ ?_ ?_)
  · intro H2 e2
    exact ⟨_, _, _, zeM, cl, rfl, R1.mono e2, ok1, cov1, e1.trans e2, fun t ht => by simp at ht, fun _ _ _ => rfl⟩
  · rintro i σ' H' _ ⟨_, _, _, _, _, _, _, _, _, k, _⟩
    exact SqT.of (k _ _ hys)
  · rintro k x σ' H' hk ⟨zi, zj, za, G, cl', rfl, R5, ok5, cov5, e5, d5, z5⟩
    obtain ⟨t, ht⟩ : ∃ t, rows[k]? = some t := by
      have := (List.getElem?_eq_some_iff.mp hk).1
      rw [hrows.1] at this
      exact ⟨_, List.getElem?_eq_getElem this⟩
    obtain ⟨i, j, m⟩ := t
    obtain ⟨p, pa, rfl, hp1, hp2⟩ := (hrows.2 k _ x ht hk).kt (Kt.of e5)
    obtain ⟨hin, hjn, hm0, hFm⟩ := (hF.iff i j m).mp (List.mem_of_getElem? ht)
    have hne : i ≠ j := fun z => by
      subst z
      have := anti_self hA i
      omega
    refine gw_tup (n := 3) (SqT.of hp1) (gws_cons (gw_name 3 (gws_cons (gw_name 4 (gws_cons (gw_name 5 (gws_nil ?_)))))))
    obtain ⟨⟨dx5, ob5⟩, _, _, ⟨cs5, hcs5, _⟩, _⟩ := id R5
    refine bw_cons (sw_expr (ew_meth hm T.cRooms.cl hr (EVgo (ev_name 2) fun Hb eb => ⟨r, dx5, _, rfl, eb _ _ ob5, rfl, AVgo (av_cons (ev_name 3) (av_cons (ev_name 4) av_nil)) fun Hc ec => ⟨r, i, j, rfl, wd, bd, cd, n, _, _, cl', R5.mono (eb.trans ec), ok5, hin, hjn, hne, fun H6 cl6 R6 ok6 m6 mi mj k6 => ?_⟩⟩)))
    have e6 : Ex H H6 := Km.nil ((Km.of (M := []) (e5.trans (eb.trans ec))).drop k6 (by simp [fcd]))
    have hp26 : Tp K H6 pa [.int (loA m : Nat), .int (loB m : Nat)] := hp2.kt ((Kt.of (eb.trans ec)).trans (k6.kt fun z hz xs e => by
      rw [List.mem_singleton.mp hz, (eb.trans ec) _ _ hcs5] at e
      cases e))
    obtain ⟨⟨dx6, ob6⟩, _⟩ := id R6
    have Gij : G i j = 0 := z5 i j fun t ht2 => by
      obtain ⟨k', hk'⟩ := List.mem_iff_getElem?.mp ht2
      have hlt : k' < k := by
        have := (List.getElem?_eq_some_iff.mp hk').1
        rw [List.length_take] at this
        omega
      rw [List.getElem?_take_of_lt hlt] at hk'
      have hup := List.pairwise_iff_getElem.mp hF.up k' k (List.getElem?_eq_some_iff.mp hk').1 (List.getElem?_eq_some_iff.mp ht).1 hlt
      rw [(List.getElem?_eq_some_iff.mp hk').2, (List.getElem?_eq_some_iff.mp ht).2] at hup
      have hmem : (t.1, t.2.1, t.2.2) ∈ rows := List.mem_of_getElem? hk'
      obtain ⟨_, _, h3, h4⟩ := (hF.iff _ _ _).mp hmem
      refine ⟨fun z => ?_, fun z => ?_⟩
      · unfold lexP at hup
        simp only at hup
        omega
      · rw [z.1, z.2] at h4
        have := hA i j
        omega
    refine bw_one (sw_expr (ew_meth hput T.cRooms.cl hr (EVgo (ev_name 2) fun Hd ed => ⟨r, dx6, _, rfl, ed _ _ ob6, rfl, AVgo (av_cons (ev_name 3) (av_cons (ev_name 4) (av_cons (ev_meth hp T.cRooms.cl hr (ev_name 2) (ed _ _ ob6) rfl (av_cons (ev_name 5) av_nil) (fun H1 e1 => ⟨_, _, rfl, m, Amt.s ⟨pa, rfl, (hp26.kt (Kt.of ed)).kt (Kt.of e1)⟩, rfl⟩)) av_nil))) fun He ee => ⟨r, i, j, _, rfl, bd, n, W, G, cl6, (R6.mono (ed.trans ee)).at, hin, hjn, hne, fun H7 R7 k7 => ?_⟩⟩)))
    have hji : (G j i = 0) := by
      have := R5.an i j
      omega
    have val : ∀ a b, pt G i j (m : Int) a b = F a b ∨ (¬ (a = i ∧ b = j) ∧ ¬ (a = j ∧ b = i) ∧ pt G i j (m : Int) a b = G a b) := fun a b => by
      unfold pt
      by_cases c1 : a = i ∧ b = j
      · rw [if_pos c1, if_neg (fun z => hne (c1.1.symm.trans z.1)), c1.1, c1.2, Gij]
        exact .inl (by omega)
      · by_cases c2 : a = j ∧ b = i
        · rw [if_neg c1, if_pos c2, c2.1, c2.2, hji]
          have := hA i j
          exact .inl (by omega)
        · rw [if_neg c1, if_neg c2]
          exact .inr ⟨c1, c2, by omega⟩
    refine ⟨_, _, _, pt G i j (m : Int), cl6, rfl, RmX.after (R6.mono (ed.trans ee)) k7 R7, ok6, fun a b ha hb hne0 => ?_, Km.nil ((Km.of (M := []) (e6.trans (ed.trans ee))).drop k7 (by simp [fbd])), fun t ht2 => ?_, fun a b hab => ?_⟩
    · by_cases c1 : a = i ∧ b = j
      · rw [c1.1, c1.2]
        exact mi
      · by_cases c2 : a = j ∧ b = i
        · rw [c2.1, c2.2]
          exact mj
        · refine m6 a b ha (cov5 a b ha hb ?_)
          have e : pt G i j (m : Int) a b = G a b := by
            unfold pt
            rw [if_neg c1, if_neg c2]
            omega
          rw [e] at hne0
          exact hne0
    · rw [take_snoc ht] at ht2
      rcases List.mem_append.mp ht2 with h | h
      · rcases val t.1 t.2.1 with e | ⟨_, _, e⟩
        · exact e
        · rw [e]
          exact d5 t h
      · have := List.mem_singleton.mp h
        subst this
        rcases val i j with e | ⟨c, _, _⟩
        · exact e
        · exact absurd ⟨rfl, rfl⟩ c
    · rw [take_snoc ht] at hab
      have h0 := hab (i, j, m) (by simp)
      rcases val a b with e | ⟨_, _, e⟩
      · unfold pt
        rw [if_neg fun z => h0.1 ⟨z.1.symm, z.2.symm⟩, if_neg fun z => h0.2 ⟨z.2.symm, z.1.symm⟩, z5 a b fun t ht => hab t (List.mem_append_left _ ht)]
        rfl
      · rw [e]
        exact z5 a b fun t ht => hab t (List.mem_append_left _ ht)
  · rintro σ' H' ⟨zi, zj, za, G, cl', rfl, R5, ok5, cov5, e5, d5, z5⟩
    rw [hrows.1, List.take_length] at d5 z5
    have eq : ∀ a b, a < n → b < n → G a b = F a b := fun a b ha hb => by
      have h1 := hA a b
      have h2 := R5.an a b
      by_cases p : 0 < F a b
      · exact d5 _ ((hF.iff a b (F a b).toNat).mpr ⟨ha, hb, by omega, by omega⟩)
      · by_cases p2 : 0 < F b a
        · have : G b a = F b a := d5 _ ((hF.iff b a (F b a).toNat).mpr ⟨hb, ha, by omega, by omega⟩)
          omega
        · have : G a b = 0 := z5 a b fun t ht => by
            obtain ⟨_, _, h3, h4⟩ := (hF.iff t.1 t.2.1 t.2.2).mp ht
            refine ⟨fun z => ?_, fun z => ?_⟩
            · rw [z.1, z.2] at h4
              omega
            · rw [z.1, z.2] at h4
              omega
          omega
    refine bw_one (sw_ret (EVgo (ev_name 2) fun H6 e6 => q r bd H6 (e5.trans e6) ⟨wd, cd, cl', (R5.mono e6).congr (fun _ _ _ _ => rfl) eq hA, ok5, fun a b ha hb hne => cov5 a b ha hb ?_, fwd, fcd⟩ fbd fr))
    rw [eq a b ha hb]
    exact hne
end
end Cut


namespace Cut
open PySem PySem.Spec PyProof.Rows L2 Evl
/-! ### lists: their methods -/
section
variable {X : Cx} {σ : L2.St} {H : Hp} {pos apos : Pos} {o e : Expr} {Q : VK} {l : Addr}
theorem ew_append (ho : EV X o σ H (.ref l)) (hl : ∃ xs, H l = some (.lst xs)) (q : ∀ H1, Ex H H1 → EW X e σ H1 fun y H2 => ∃ xs, H2 l = some (.lst xs) ∧ xs.length < sizeLine ∧ Q .non (upd H2 l (.lst (xs ++ [y]))))
    (hbase : attributeBase o "append" X.env (eval o X.env) = eval o X.env := by rfl)
    (hfew : ((backTo pos (starEach [e] X.env)).all (fun x => !x.1) && (backToKw pos (keywordEach [] X.env)).all (fun x => x.1.isSome) && decide ([e].length + ([] : List Keyword).length + (if ([] : List Keyword).isEmpty then 0 else 1) < 30)) = true := by rfl)
    (hline : (apos.endLine == pos.line) = true := by rfl) (hs : starEach [e] X.env = (false, eval e X.env) :: starEach [] X.env := by rfl) (hplain : (backTo pos (starEach [] X.env)).any (·.1) = false := by rfl) : EW X (.Call (.Attribute o "append" apos) [e] [] pos) σ H Q :=
  ew_of (pe_bm PySem.F.plainAttrs_list PySem.F.slot_list_append PySem.F.type_list_append mt_append pe_w pa_w hbase hfew hline hs hplain) (EVgo (te := EW X o) ho fun H1 e1 => by
    obtain ⟨xs, hx⟩ := hl
    refine ⟨.inl ⟨rfl, xs, .inl (.inl (e1 _ _ hx))⟩, aw_cons (EW.mono (q H1 e1) fun y H2 ⟨xs, h1, h2, h3⟩ => aw_nil ⟨l, xs, y, rfl, rfl, h1, h2, h3⟩) hs⟩)
theorem ew_pop {xs : List V} {y : V} (ho : EV X o σ H (.ref l)) (hl : H l = some (.lst xs)) (hy : xs[xs.length - 1]? = some y) (q : ∀ H1, Ex H H1 → Q y (upd H1 l (.lst xs.dropLast)))
    (hbase : attributeBase o "pop" X.env (eval o X.env) = eval o X.env := by rfl) (hline : (apos.endLine == pos.line) = true := by rfl) : EW X (.Call (.Attribute o "pop" apos) [] [] pos) σ H Q :=
  ew_of (pe_bm0 PySem.F.plainAttrs_list PySem.F.slot_list_pop PySem.F.type_list_pop mt_pop pe_w hbase hline) (EVgo (te := EW X o) ho fun H1 e1 => ⟨.inl ⟨rfl, xs, .inl (.inl (e1 _ _ hl))⟩, l, xs, y, rfl, rfl, e1 _ _ hl, hy, q H1 e1⟩)
theorem ew_reverse {xs : List V} (ho : EV X o σ H (.ref l)) (hl : H l = some (.lst xs)) (q : ∀ H1, Ex H H1 → Q .non (upd H1 l (.lst xs.reverse)))
    (hbase : attributeBase o "reverse" X.env (eval o X.env) = eval o X.env := by rfl) (hline : (apos.endLine == pos.line) = true := by rfl) : EW X (.Call (.Attribute o "reverse" apos) [] [] pos) σ H Q :=
  ew_of (pe_bm0 PySem.F.plainAttrs_list PySem.F.slot_list_reverse PySem.F.type_list_reverse mt_reverse pe_w hbase hline) (EVgo (te := EW X o) ho fun H1 e1 => ⟨.inl ⟨rfl, xs, .inl (.inl (e1 _ _ hl))⟩, l, xs, rfl, rfl, e1 _ _ hl, q H1 e1⟩)
end
/-! ### dicts of places -/
def pk (i : Nat) : Key := .inl (i : Int)
theorem pk_inj {i j : Nat} : pk i = pk j ↔ i = j := ⟨fun h => by have := Sum.inl.inj h; omega, fun h => by rw [h]⟩
theorem kV_pk (i : Nat) : kV (pk i) = iV i := rfl
structure Kd (n : Nat) (kvs : List (Key × V)) (f : Nat → Option V) : Prop where
  key : ∀ p ∈ kvs, ∃ i, i < n ∧ p.1 = pk i
  nd : (kvs.map (·.1)).Nodup
  val : ∀ i, valV kvs (pk i) = f i
theorem Kd.nil (n : Nat) : Kd n [] fun _ => none := ⟨fun p h => (by cases h), List.nodup_nil, fun _ => rfl⟩
theorem keys_putK1 {kvs : List (Key × V)} {k : Key} {v : V} (h : (valV kvs k).isSome = true) : (putK kvs k v).map (·.1) = kvs.map (·.1) := by
  unfold putK
  rw [valV_any, h, if_pos rfl]
  rw [List.map_map]
  refine List.map_congr_left fun kv _ => ?_
  show (if kv.1 = k then (kv.1, v) else kv).1 = kv.1
  by_cases e : kv.1 = k
  · rw [if_pos e]
  · rw [if_neg e]
section
variable {n : Nat} {kvs : List (Key × V)} {f : Nat → Option V} {i : Nat} {v : V}
theorem Kd.put (h : Kd n kvs f) (hi : i < n) (v : V) : Kd n (putK kvs (pk i) v) fun a => if a = i then some v else f a := by
  refine ⟨?_, ?_, fun a => ?_⟩
  · cases e : valV kvs (pk i) with
    | none =>
      rw [putK_new v e]
      intro p hp
      rcases List.mem_append.mp hp with hp | hp
      · exact h.key p hp
      · rw [List.mem_singleton.mp hp]
        exact ⟨i, hi, rfl⟩
    | some u =>
      intro p hp
      have hk : p.1 ∈ (putK kvs (pk i) v).map (·.1) := List.mem_map_of_mem hp
      rw [keys_putK1 (by rw [e]; rfl)] at hk
      obtain ⟨q, hq, eq⟩ := List.mem_map.mp hk
      obtain ⟨a, ha, e2⟩ := h.key q hq
      exact ⟨a, ha, by rw [← eq]; exact e2⟩
  · cases e : valV kvs (pk i) with
    | none => exact nd_putK v h.nd e
    | some u =>
      rw [keys_putK1 (by rw [e]; rfl)]
      exact h.nd
  · rw [valV_put]
    by_cases e : a = i
    · rw [if_pos (pk_inj.mpr e), if_pos e]
    · rw [if_neg fun z => e (pk_inj.mp z), if_neg e]
      exact h.val a
theorem Kd.len (h : Kd n kvs f) : kvs.length ≤ n := by
  let c : Key → Nat := fun k => match k with
    | .inl a => a.toNat
    | _ => 0
  have hc : ∀ i, c (pk i) = i := fun i => by
    show (i : Int).toNat = i
    omega
  have h1 : ((kvs.map (·.1)).map c).Nodup := by
    refine List.pairwise_map.mpr ?_
    refine List.Pairwise.imp_of_mem (fun {a b} ha hb hab => ?_) h.nd
    obtain ⟨p, hp, e1⟩ := List.mem_map.mp ha
    obtain ⟨q, hq, e2⟩ := List.mem_map.mp hb
    obtain ⟨i, hi, e3⟩ := h.key p hp
    obtain ⟨j, hj, e4⟩ := h.key q hq
    intro z
    rw [← e1, ← e2, e3, e4, hc, hc] at z
    exact hab (by rw [← e1, ← e2, e3, e4, z])
  have h2 := nodup_lt n _ h1 fun x hx => by
    obtain ⟨k, hk, e⟩ := List.mem_map.mp hx
    obtain ⟨p, hp, e1⟩ := List.mem_map.mp hk
    obtain ⟨i, hi, e3⟩ := h.key p hp
    rw [← e, ← e1, e3, hc]
    exact hi
  rw [List.length_map, List.length_map] at h2
  exact h2
theorem Kd.ext {g : Nat → Option V} (h : Kd n kvs f) (e : ∀ i, f i = g i) : Kd n kvs g := ⟨h.key, h.nd, fun i => (h.val i).trans (e i)⟩
theorem Kd.small (h : Kd n kvs f) (hn : n ≤ 7) : kvs.length < sizeLine := Nat.lt_of_le_of_lt (Nat.le_trans h.len hn) (by decide)
end
theorem Kd.merge {n : Nat} {c : V} : ∀ {ps : List Nat} {kvs : List (Key × V)} {f : Nat → Option V}, Kd n kvs f → (∀ x ∈ ps, x < n) → Kd n (mergeK kvs (ps.map fun i => (pk i, c))) fun i => if i ∈ ps then some c else f i
  | [], kvs, f, h, _ => h.ext fun i => (if_neg (by simp)).symm
  | a :: r, kvs, f, h, hl => by
    have h1 := h.put (hl a List.mem_cons_self) c
    have h2 := Kd.merge (c := c) (ps := r) h1 fun x hx => hl x (List.mem_cons_of_mem _ hx)
    refine Kd.ext h2 fun i => ?_
    by_cases e1 : i ∈ r
    · rw [if_pos e1, if_pos (List.mem_cons_of_mem _ e1)]
    · rw [if_neg e1]
      by_cases e2 : i = a
      · rw [if_pos e2, if_pos (by rw [e2]; exact List.mem_cons_self)]
      · rw [if_neg e2, if_neg fun z => (List.mem_cons.mp z).elim e2 e1]
/-- pairs of a place and c -/
def PcR (c : V) (a : Nat) (y : V) (H : Hp) : Prop := ∃ q, y = .ref q ∧ H q = some (.tup [iV a, c])
theorem PcR.kt {c : V} {a : Nat} {y : V} {H H' : Hp} (h : PcR c a y H) (k : Kt H H') : PcR c a y H' := by
  obtain ⟨q, h1, h2⟩ := h
  exact ⟨q, h1, k _ _ h2⟩
theorem pcR_pairs {K : PySem.W.Frag} {H : Hp} {c : V} : ∀ {ps : List Nat} {ys : List V}, AllR (PcR c) ps ys H → ∃ pl : List Addr, ys = pl.map V.ref ∧ Paired (fun p (kv : Key × V) => SqT K H p [kV kv.1, kv.2]) pl (ps.map fun i => (pk i, c))
  | [], [], _ => ⟨[], rfl, .nil⟩
  | [], y :: ys, h => by cases h.1
  | a :: l, [], h => by cases h.1
  | a :: l, y :: ys, h => by
    obtain ⟨q, rfl, hq⟩ := h.2 0 a y rfl rfl
    have h2 : AllR (PcR c) l ys H := ⟨Nat.succ.inj h.1, fun k b z h3 h4 => h.2 (k + 1) b z h3 h4⟩
    obtain ⟨pl, rfl, hp⟩ := pcR_pairs h2
    exact ⟨q :: pl, rfl, .cons (SqT.of hq) hp⟩
/-! dict([(x, c) for x in places]) -/
section
variable {X : Cx} {scope : Scope} {σ : L2.St} {H : Hp} {pos p1 p2 p3 p4 pos2 : Pos} {kt : Nat} {ce iter : Expr} {x : Str} {Q : VK} {a : Addr} {ps : List Nat} {c : V} {n : Nat}
theorem ew_dictC (own : List (Str × Nat)) (j : Nat) (hd : X.mg "dict" = none) (hi : EV X iter σ H (.ref a)) (ha : Tp X.K H a (ps.map iV)) (hn : n ≤ 7) (hnd : ps.Nodup) (hlt : ∀ x ∈ ps, x < n)
    (hc : ∀ v H1, ∀ s0 H0 C cl fp, EV (Bk X scope s0 H0 C cl fp) ce ((wipe σ (own.map (·.2))).set j (some v)) H1 c)
    (q : ∀ d kvs H', Ex H H' → H d = none → H' d = some (.dK kvs) → Kd n kvs (fun i => if i ∈ ps then some c else none) → Q (.ref d) H')
    (hg' : ∀ s0 H0 C cl fp v H1, GV (Bk X scope s0 H0 C cl fp) (.Name x p1) v (wipe σ (own.map (·.2))) H1 ((wipe σ (own.map (·.2))).set j (some v)))
    (hx' : ∀ s0 H0 C cl fp v H1, EV (Bk X scope s0 H0 C cl fp) (.Name x p2) ((wipe σ (own.map (·.2))).set j (some v)) H1 v)
    (hw : ∀ v, wipe ((wipe σ (own.map (·.2))).set j (some v)) (own.map (·.2)) = wipe σ (own.map (·.2)) := by intro _; rfl)
    (hN : X.N.Nodup := by assumption) (ok : BlkOk X.N X.env.scope scope own := by exact blkOk_by (by kernel_rfl)) (hcal : X.calm = true := by rfl) (hs : ∀ x, foldedSetIterable iter X.env x = pure x := by intro _; rfl)
    (hs1 : ∀ s0 H0 C cl fp, starEach [.Name x p2, ce] (Bk X scope s0 H0 C cl fp).env = (false, eval (.Name x p2) (Bk X scope s0 H0 C cl fp).env) :: starEach [ce] (Bk X scope s0 H0 C cl fp).env := by intros; rfl)
    (hs2 : ∀ s0 H0 C cl fp, starEach [ce] (Bk X scope s0 H0 C cl fp).env = (false, eval ce (Bk X scope s0 H0 C cl fp).env) :: starEach [] (Bk X scope s0 H0 C cl fp).env := by intros; rfl)
    (hgd : Gl X "dict" := by rfl) (hst : starEach [.ListComp (.Tuple [.Name x p2, ce] kt p3) [⟨.Name x p1, iter, [], 0⟩] scope pos2] X.env = (false, eval (.ListComp (.Tuple [.Name x p2, ce] kt p3) [⟨.Name x p1, iter, [], 0⟩] scope pos2) X.env) :: starEach [] X.env := by rfl) :
    EW X (.Call (.Name "dict" p4) [.ListComp (.Tuple [.Name x p2, ce] kt p3) [⟨.Name x p1, iter, [], 0⟩] scope pos2] [] pos) σ H Q := by
  refine ew_Ty (call_dictP hcal) hd (aw_cons (ew_lc (own := own) (lc_of (iw_T (EVgo hi fun H1 e1 => ⟨a, rfl, ⟨_, (ha.mono e1).sq⟩, ?_⟩))) hN ok hcal hs) hst) (by decide +kernel) hgd (by decide) (by decide) hst
  have hz : ps.length ≤ 7 := Nat.le_trans (nodup_lt n ps hnd hlt) hn
  refine lc_goX (l := ps) (pf := fun _ => true) (n := (ps.map iV).length) (G := fun H => SqT X.K H a (ps.map iV)) (Y := YAt (ps.map iV)) (Fx := fun i x _ => x = iV i) (R := PcR c) (sg := fun i x => (wipe σ (own.map (·.2))).set j (some x)) walk_tup (fun H2 e2 => ((ha.mono e1).mono e2).sq) (by rw [List.length_map]) (by rw [List.length_map]; omega) ?_ (fun _ _ _ _ h _ => h) ?_ (fun _ x => hw x) (fun _ _ _ _ _ _ => et_yes) ?_ (fun _ _ _ _ h k => h.kt k) ?_
  · rintro i b x H2 H3 hb e2 ⟨rfl, hx⟩
    rw [List.getElem?_map, hb] at hx
    exact ⟨Ex.refl _, (Option.some.inj hx).symm⟩
  · rintro b _ x H2 e2 rfl s0 H0 C cl fp
    exact hg' s0 H0 C cl fp _ _
  · rintro b _ _ x H2 e2 rfl s0 H0 C cl fp
    intro H3 e3 Q' q'
    refine ew_tup (aw_cons (EVgo (hx' s0 H0 C cl fp _ _) fun H4 e4 => aw_cons (EVgo (hc _ _ s0 H0 C cl fp) fun H5 e5 => aw_nil ⟨by show 2 ≤ sizeLine; decide, fun t nt => q' _ _ ((e4.trans e5).trans (Ex.new nt)) ⟨t, rfl, upd_same⟩⟩) (hs2 s0 H0 C cl fp)) (hs1 s0 H0 C cl fp))
  · intro p ys H2 hp e2 hys hall
    rw [show ps.filter (fun _ => true) = ps from List.filter_eq_self.mpr fun _ _ => rfl] at hall
    obtain ⟨pl, rfl, hpl⟩ := pcR_pairs (K := X.K) hall
    refine aw_nil ⟨p, pl, _, rfl, .inl (.inl hys), hpl, fun d hd => q d _ _ ((e1.trans e2).trans (Ex.new hd)) (Evl.fresh_back (e1.trans e2) hd) upd_same ?_⟩
    exact Kd.merge (Kd.nil n) hlt
end
end Cut


namespace Cut
open PySem PySem.Spec PyProof.Rows L2 Evl
def inP (ps : List Nat) : Pl := fun v => decide (v ∈ ps)
theorem inP_iff {ps : List Nat} {v : Nat} : inP ps v = true ↔ v ∈ ps := decide_eq_true_iff
def CovR (n : Nat) (W F : Mx) (cl : Nat → List Nat) : Prop := ∀ a b, a < n → b < n → W a b ≠ 0 ∨ F a b ≠ 0 → b ∈ cl a
theorem covB {n : Nat} {W F : Mx} {cl : Nat → List Nat} (ok : ClOk n cl) (c : CovR n W F cl) {u v : Nat} (hu : u < n) (hv : v < n) (h : W v u ≠ 0 ∨ F v u ≠ 0) : v ∈ cl u := (ok.in_ v u hv (c v u hv hu h)).2.2
/-- sorted, each once -/
theorem lt_of_le {l : List Nat} (h : (l.map fun x : Nat => (x : Int)).Pairwise (· ≤ ·)) (hn : l.Nodup) : l.Pairwise (· < ·) := by
  have h1 := List.pairwise_map.mp h
  exact (h1.and hn).imp fun {a b} z => by
    have := z.1
    have := z.2
    omega
section
variable {P : Program} {w : World} {K : PySem.W.Frag} {mg : Str → Option Value} {base : Heap} {CR CW CN CH : Addr}
def spReach (K : PySem.W.Frag) (CR : Addr) (R : Mx → Mx → Nat → Nat → Prop) : Sp := fun vs H Q _ => ∃ r p, vs = [.ref r, .ref p] ∧ ∃ bd n W F cl ps, RmAt CR H r bd n W F cl ∧ ClOk n cl ∧ CovR n W F cl ∧ Tp K H p (ps.map iV) ∧ ps.Nodup ∧ (∀ x ∈ ps, x < n) ∧
  ∀ (t : Addr) (l : List Nat) (H' : Hp), Ex H H' → H' t = some (.tup (l.map iV)) → l.Pairwise (· < ·) → (∀ v, v ∈ l ↔ Rch n (R W F) (inP ps) v) → Q (.ref t) H'
/-! reached: slots 0 rooms, 1 places, 2 found, 3 seen, 4 at, 5 other, 6 place -/
theorem sc_reached : FnScope ["rooms", "places", "found", "seen", "at", "other", "place"] ["rooms", "places"] (defScope s_reached) := ⟨rfl, rfl, rfl, by decide +kernel, rfl, by decide +kernel, by decide +kernel⟩
theorem ok_reached (T : Tops K mg CR CW CN CH) (hsp : HasM P w K mg base CR 1 "spare" ["self", "i", "j"] (spSpare CR)) : Has P w K mg base 2 "reached" ["rooms", "places"] (spReach K CR Rm) := by
  refine has_of (k := 1) T.reached sc_reached (fun _ _ _ _ _ _ us hl => match us, hl with | [_, _], _ => rfl) (fun vs H Q E h => by
    obtain ⟨r, p, rfl, _⟩ := h
    rfl) ?_
  intro f cdv A outer s H0 H vs Q E E0 hr h
  obtain ⟨r, p, rfl, bd, n, W, F, cl, ps, R, ok, cov, hps, hnd, hlt, q⟩ := h
  have nd := (sc_reached).nd
  have hu := hu_of hr
  have hle := R.le
  obtain ⟨⟨dx, wd, cd, ob, _, _, ⟨cs, c1, c2, c3⟩⟩, _⟩ := id R
  refine bw_cons (sw_set 2 (ew_Ty call_list_of T.b.b_list (aw_cons (EVgo (ev_name 1) fun H1 e1 => aw_nil ⟨p, _, rfl, .inr (hps.mono e1).sq, fun fa nfa => ?_⟩))))
  have fF : H fa = none := Evl.fresh_back e1 nfa
  have e2 : Ex H (upd H1 fa (.lst (ps.map iV))) := e1.trans (Ex.new nfa)
  have hf2 : (upd H1 fa (.lst (ps.map iV))) fa = some (.lst (ps.map iV)) := upd_same
  generalize upd H1 fa (.lst (ps.map iV)) = H2 at e2 hf2
  refine bw_cons (sw_set 3 (ew_dictC [("place", 6)] 6 T.b.b_dict (ev_name 1) (hps.mono e2) hle.2 hnd hlt (c := .bl true) (fun v H1 s0 H0 C cl fp => ev_bl) (fun sa kvs H3 e3 fsa hsa hkd => ?_) (fun s0 H0 C cl fp v H1 => gv_name 6) (fun s0 H0 C cl fp v H1 => ev_name 6)))
  have e03 := e2.trans e3
  have fS : H sa = none := Evl.fresh_back e2 fsa
  have nfs : fa ≠ sa := fun z => by
    rw [← z, hf2] at fsa
    cases fsa
  refine bw_cons (sw_set 4 (EVgo ev_int fun H4 e4 => ?_))
  refine bw_cons (sw_whileM PassesOwn.never (fun m σ' H' => ∃ (k : Nat) (z : Option V) (fl : List Nat) (kvs : List (Key × V)), σ' = [some (.ref r), some (.ref p), some (.ref fa), some (.ref sa), some (.int (k : Int)), z, none] ∧ m = n - k ∧ k ≤ fl.length ∧ Ex H H' ∧ H' fa = some (.lst (fl.map iV)) ∧ H' sa = some (.dK kvs) ∧ Kd n kvs (fun i => if i ∈ fl then some (.bl true) else none) ∧ fl.Nodup ∧ (∀ x ∈ ps, x ∈ fl) ∧ (∀ x ∈ fl, Rch n (Rm W F) (inP ps) x) ∧ ∀ u ∈ fl.take k, ∀ v, v < n → Rm W F u v → v ∈ fl) n ⟨0, _, ps, kvs, rfl, by omega, Nat.zero_le _, e03.trans e4, e4 _ _ (e3 _ _ hf2), e4 _ _ hsa, hkd, hnd, fun _ h => h, fun x hx => .base (hlt x hx) (inP_iff.mpr hx), fun u hu => by simp at hu⟩ ?_)
  rintro m σ' H' ⟨k, z, fl, kvs, rfl, rfl, hk, e5, hfa, hsa, hkd, hnd', hsub, hrch, hcls⟩
  have hfn : ∀ x ∈ fl, x < n := fun x hx => (hrch x hx).lt
  have hfl : fl.length ≤ n := nodup_lt n fl hnd' hfn
  refine TVgo (tv_lt (ev_name 4) (ev_len T.b.b_len (ev_name 2) (.inl (.inl (.inl hfa))))) fun H6 e6 => ?_
  refine ite2 (fun hd => ?_) (fun hd => ?_)
  · have hlt' : k < fl.length := by
      have := of_decide_eq_true hd
      rw [List.length_map] at this
      omega
    have e56 := e5.trans e6
    have hun : fl[k] < n := hfn _ (List.getElem_mem _)
    have huc : fl[k] < cs.length := by omega
    have cu0 := c3 fl[k] _ (List.getElem?_eq_getElem huc)
    have cu := e56 _ _ cu0
    refine bw_cons (sw_forL PassesOwn.never (p := cs[fl[k]]) (xs := (cl fl[k]).map iV) (ev_ixLn fl[k] (ev_fld (ev_name 0) (rm_fl T (e56 _ _ ob)).2.2.2) (ev_ixLn k (ev_name 2) (ev_name 4) (.inl (.inl (e6 _ _ hfa))) (ws_get hlt')) (.inl (.inl (e56 _ _ c1))) (by rw [List.getElem?_map, List.getElem?_eq_getElem huc]; rfl) rfl) (.inl (.inl cu)) (fun i σ' H'' => ∃ (z : Option V) (ex : List Nat) (kvs : List (Key × V)), σ' = [some (.ref r), some (.ref p), some (.ref fa), some (.ref sa), some (.int (k : Int)), z, none] ∧ Ex H H'' ∧ H'' fa = some (.lst ((fl ++ ex).map iV)) ∧ H'' sa = some (.dK kvs) ∧ Kd n kvs (fun i => if i ∈ fl ++ ex then some (.bl true) else none) ∧ (fl ++ ex).Nodup ∧ (∀ x ∈ fl ++ ex, Rch n (Rm W F) (inP ps) x) ∧ (∀ v ∈ (cl fl[k]).take i, Rm W F fl[k] v → v ∈ fl ++ ex) ∧ H'' cs[fl[k]] = some (.lst ((cl fl[k]).map iV))) ?_ ?_ ?_ ?_)
    · intro H7 e7
      exact ⟨_, [], kvs, rfl, e56.trans e7, by rw [List.append_nil]; exact e7 _ _ (e6 _ _ hfa), e7 _ _ (e6 _ _ hsa), by rw [List.append_nil]; exact hkd, by rw [List.append_nil]; exact hnd', by rw [List.append_nil]; exact hrch, fun v hv => by simp at hv, e7 _ _ cu⟩
    · rintro i σ' H'' _ ⟨_, _, _, _, _, _, _, _, _, _, _, h⟩
      exact .inl (.inl h)
    · rintro i x σ' H'' hi ⟨z, ex, kvs, rfl, e7, hfa7, hsa7, hkd7, hnd7, hrch7, hcl7, hc7⟩
      rw [List.getElem?_map] at hi
      obtain ⟨v, hv, rfl⟩ : ∃ v, (cl fl[k])[i]? = some v ∧ iV v = x := by
        cases e : (cl fl[k])[i]? with
        | none => rw [e] at hi; cases hi
        | some v =>
          rw [e] at hi
          exact ⟨v, rfl, Option.some.inj hi⟩
      obtain ⟨hvn, hvu, huv⟩ := ok.in_ _ v hun (List.mem_of_getElem? hv)
      have hget : ((fl ++ ex).map iV)[k]? = some (iV fl[k]) := by
        rw [List.getElem?_map, List.getElem?_append_left hlt', List.getElem?_eq_getElem hlt']
        rfl
      have R7 := R.mono e7
      obtain ⟨⟨dx7, wd7, cd7, ob7, _⟩, _⟩ := id R7
      refine gw_name 5 (bw_one (sw_ifV (k := (!(if v ∈ fl ++ ex then some (V.bl true) else none).isSome) && decide (0 < W fl[k] v - F fl[k] v)) (tv_bool (wv_and (tv_is (tv_niK (n := (v : Int)) hu (ev_name 5) (ev_name 3) (.inl hsa7)) (by rw [← hkd7.val v]; rfl)) fun _ => wv_one_and (tv_gt (ev_meth hsp T.cRooms.cl hr (ev_name 0) ob7 rfl (av_cons (ev_ixLn k (ev_name 2) (ev_name 4) (.inl (.inl hfa7)) hget) (av_cons (ev_name 5) av_nil)) (fun H8 e8 => ⟨r, fl[k], v, rfl, bd, n, W, F, cl, R7.mono e8, hun, hvn, rfl⟩)) ev_int))) ?_ ?_))
      · intro hb H8 e8
        rw [Bool.and_eq_true] at hb
        have hvn' : v ∉ fl ++ ex := fun z => by
          have := hb.1
          rw [if_pos z] at this
          cases this
        have hroom : Rm W F fl[k] v := by
          have := of_decide_eq_true hb.2
          show F fl[k] v < W fl[k] v
          omega
        have hu' := hkd7.small hle.2
        refine bw_cons (sw_dput hu (EVgo ev_bl fun H9 e9 => EVgo (ev_name 3) fun Ha ea => EVgo (ev_name 5) fun Hb eb => ⟨sa, _, rfl, DPut.k (k := pk v) (((e8.trans e9).trans (ea.trans eb)) _ _ hsa7) hu', ?_⟩))
        have e8b := (e8.trans e9).trans (ea.trans eb)
        have hfab := e8b _ _ hfa7
        refine bw_one (sw_expr (ew_append (l := fa) (ev_name 2) ⟨(fl ++ ex).map iV, by rw [upd_ne nfs]; exact hfab⟩ fun Hc ec => EVgo (ev_name 5) fun Hd ed => ⟨_, ed _ _ (ec _ _ (by rw [upd_ne nfs]; exact hfab)), ?_, ?_⟩))
        · rw [List.length_map]
          have := nodup_lt n _ hnd7 fun x hx => (hrch7 x hx).lt
          exact Evl.sz_lt (by omega)
        · have nsc : cs[fl[k]] ≠ sa := fun z => by
            rw [z, hsa7] at hc7
            cases hc7
          have nfc : fa ≠ cs[fl[k]] := fun z => by
            rw [← z, fF] at cu0
            cases cu0
          have kk : Km [fa, sa] H (upd Hd fa (.lst ((fl ++ ex).map iV ++ [iV v]))) := (((Km.of (M := [fa, sa]) (e7.trans e8b)).upd (p := sa) (by simp)).trans (Km.of (ec.trans ed))).upd (by simp)
          refine ⟨_, ex ++ [v], _, rfl, Km.nil ((Km.of (M := []) (Ex.refl H)).drop kk (by simp [fF, fS])), ?_, ?_, (hkd7.put hvn (.bl true)).ext fun i => ?_, ?_, ?_, ?_, ?_⟩
          · rw [upd_same, ← List.append_assoc, List.map_append (l₂ := [v])]
            rfl
          · rw [upd_ne (Ne.symm nfs)]
            exact ed _ _ (ec _ _ upd_same)
          · by_cases e : i = v
            · rw [if_pos e, if_pos (by rw [e]; simp)]
            · rw [if_neg e]
              by_cases e' : i ∈ fl ++ ex
              · rw [if_pos e', if_pos (by rw [← List.append_assoc]; exact List.mem_append_left _ e')]
              · rw [if_neg e', if_neg fun z => by
                  rw [← List.append_assoc] at z
                  rcases List.mem_append.mp z with z | z
                  · exact e' z
                  · exact e (List.mem_singleton.mp z)]
          · rw [← List.append_assoc]
            refine List.nodup_append.mpr ⟨hnd7, by simp, fun a ha b hb => ?_⟩
            rw [List.mem_singleton.mp hb]
            exact fun z => hvn' (z ▸ ha)
          · intro x hx
            rw [← List.append_assoc] at hx
            rcases List.mem_append.mp hx with h | h
            · exact hrch7 x h
            · rw [List.mem_singleton.mp h]
              exact .step (hrch7 _ (List.mem_append_left _ (List.getElem_mem hlt'))) hvn hroom
          · intro x hx hr
            rw [take_snoc hv] at hx
            rw [← List.append_assoc]
            rcases List.mem_append.mp hx with h | h
            · exact List.mem_append_left _ (hcl7 x h hr)
            · exact List.mem_append_right _ h
          · rw [upd_ne (Ne.symm nfc)]
            refine ed _ _ (ec _ _ ?_)
            rw [upd_ne nsc]
            exact e8b _ _ hc7
      · intro hb H8 e8
        refine bw_nil ⟨_, ex, kvs, rfl, e7.trans e8, e8 _ _ hfa7, e8 _ _ hsa7, hkd7, hnd7, hrch7, fun x hx hr => ?_, e8 _ _ hc7⟩
        rw [take_snoc hv] at hx
        rcases List.mem_append.mp hx with h | h
        · exact hcl7 x h hr
        · have hx : x = v := List.mem_singleton.mp h
          rw [hx] at hr ⊢
          refine Decidable.byContradiction fun hc => ?_
          rw [if_neg hc] at hb
          have hr' : F fl[k] v < W fl[k] v := hr
          have : decide (0 < W fl[k] v - F fl[k] v) = true := decide_eq_true (by omega)
          rw [this] at hb
          cases hb
    · rintro σ' H'' ⟨z, ex, kvs, rfl, e7, hfa7, hsa7, hkd7, hnd7, hrch7, hcl7, hc7⟩
      refine bw_one (sw_augP 4 rfl (EVgo ev_int fun H8 e8 => ⟨rfl, n - (k + 1), by omega, k + 1, _, fl ++ ex, kvs, rfl, rfl, by rw [List.length_append]; omega, e7.trans e8, e8 _ _ hfa7, e8 _ _ hsa7, hkd7, hnd7, fun x hx => List.mem_append_left _ (hsub x hx), hrch7, fun u hu v hv hr => ?_⟩))
      rw [List.take_append_of_le_length (by omega), take_snoc (List.getElem?_eq_getElem hlt')] at hu
      rcases List.mem_append.mp hu with h | h
      · exact List.mem_append_left _ (hcls u h v hv hr)
      · rw [List.mem_singleton.mp h] at hr
        rw [List.length_map, List.take_length] at hcl7
        exact hcl7 v (cov _ v hun hv (by have hr2 : F fl[k] v < W fl[k] v := hr; omega)) hr
  · have hk' : k = fl.length := by
      have : ¬ ((k : Int) < (((fl.map iV).length : Nat) : Int)) := fun z => hd (decide_eq_true z)
      rw [List.length_map] at this
      omega
    rw [hk', List.take_length] at hcls
    refine bw_one (sw_ret (ew_Ty call_tuple_of T.b.b_tuple (aw_cons (ew_B cr_sorted T.b.b_sorted (aw_cons (EVgo (ev_name 2) fun H7 e7 => aw_nil ⟨fa, fl.map (fun x : Nat => (x : Int)), rfl, .inl (.inl ?_), ?_, fun ns p2 hperm hsrt np2 => ?_⟩))))))
    · rw [← iV_map]
      exact e7 _ _ (e6 _ _ hfa)
    · rw [List.length_map]
      omega
    · obtain ⟨l, rfl, hl⟩ := perm_nat hperm
      refine aw_nil ⟨p2, _, rfl, .inl ⟨.inl (.inl upd_same), fun t nt => q t l _ (((e5.trans e6).trans e7).trans ((Ex.new np2).trans (Ex.new nt))) (by rw [upd_same, iV_map]) (lt_of_le hsrt (hl.nodup_iff.mpr hnd')) fun v => ?_⟩⟩
      rw [hl.mem_iff]
      refine ⟨hrch v, fun h => ?_⟩
      induction h with
      | base hv h => exact hsub _ (inP_iff.mp h)
      | step h hv rr ih => exact hcls _ ih _ hv rr
/-! leading: slots 0 rooms, 1 places, 2 found, 3 seen, 4 at, 5 other, 6 place -/
theorem sc_leading : FnScope ["rooms", "places", "found", "seen", "at", "other", "place"] ["rooms", "places"] (defScope s_leading) := ⟨rfl, rfl, rfl, by decide +kernel, rfl, by decide +kernel, by decide +kernel⟩
theorem ok_leading (T : Tops K mg CR CW CN CH) (hsp : HasM P w K mg base CR 1 "spare" ["self", "i", "j"] (spSpare CR)) : Has P w K mg base 2 "leading" ["rooms", "places"] (spReach K CR Rb) := by
  refine has_of (k := 1) T.leading sc_leading (fun _ _ _ _ _ _ us hl => match us, hl with | [_, _], _ => rfl) (fun vs H Q E h => by
    obtain ⟨r, p, rfl, _⟩ := h
    rfl) ?_
  intro f cdv A outer s H0 H vs Q E E0 hr h
  obtain ⟨r, p, rfl, bd, n, W, F, cl, ps, R, ok, cov, hps, hnd, hlt, q⟩ := h
  have nd := (sc_leading).nd
  have hu := hu_of hr
  have hle := R.le
  obtain ⟨⟨dx, wd, cd, ob, _, _, ⟨cs, c1, c2, c3⟩⟩, _⟩ := id R
  refine bw_cons (sw_set 2 (ew_Ty call_list_of T.b.b_list (aw_cons (EVgo (ev_name 1) fun H1 e1 => aw_nil ⟨p, _, rfl, .inr (hps.mono e1).sq, fun fa nfa => ?_⟩))))
  have fF : H fa = none := Evl.fresh_back e1 nfa
  have e2 : Ex H (upd H1 fa (.lst (ps.map iV))) := e1.trans (Ex.new nfa)
  have hf2 : (upd H1 fa (.lst (ps.map iV))) fa = some (.lst (ps.map iV)) := upd_same
  generalize upd H1 fa (.lst (ps.map iV)) = H2 at e2 hf2
  refine bw_cons (sw_set 3 (ew_dictC [("place", 6)] 6 T.b.b_dict (ev_name 1) (hps.mono e2) hle.2 hnd hlt (c := .bl true) (fun v H1 s0 H0 C cl fp => ev_bl) (fun sa kvs H3 e3 fsa hsa hkd => ?_) (fun s0 H0 C cl fp v H1 => gv_name 6) (fun s0 H0 C cl fp v H1 => ev_name 6)))
  have e03 := e2.trans e3
  have fS : H sa = none := Evl.fresh_back e2 fsa
  have nfs : fa ≠ sa := fun z => by
    rw [← z, hf2] at fsa
    cases fsa
  refine bw_cons (sw_set 4 (EVgo ev_int fun H4 e4 => ?_))
  refine bw_cons (sw_whileM PassesOwn.never (fun m σ' H' => ∃ (k : Nat) (z : Option V) (fl : List Nat) (kvs : List (Key × V)), σ' = [some (.ref r), some (.ref p), some (.ref fa), some (.ref sa), some (.int (k : Int)), z, none] ∧ m = n - k ∧ k ≤ fl.length ∧ Ex H H' ∧ H' fa = some (.lst (fl.map iV)) ∧ H' sa = some (.dK kvs) ∧ Kd n kvs (fun i => if i ∈ fl then some (.bl true) else none) ∧ fl.Nodup ∧ (∀ x ∈ ps, x ∈ fl) ∧ (∀ x ∈ fl, Rch n (Rb W F) (inP ps) x) ∧ ∀ u ∈ fl.take k, ∀ v, v < n → Rb W F u v → v ∈ fl) n ⟨0, _, ps, kvs, rfl, by omega, Nat.zero_le _, e03.trans e4, e4 _ _ (e3 _ _ hf2), e4 _ _ hsa, hkd, hnd, fun _ h => h, fun x hx => .base (hlt x hx) (inP_iff.mpr hx), fun u hu => by simp at hu⟩ ?_)
  rintro m σ' H' ⟨k, z, fl, kvs, rfl, rfl, hk, e5, hfa, hsa, hkd, hnd', hsub, hrch, hcls⟩
  have hfn : ∀ x ∈ fl, x < n := fun x hx => (hrch x hx).lt
  have hfl : fl.length ≤ n := nodup_lt n fl hnd' hfn
  refine TVgo (tv_lt (ev_name 4) (ev_len T.b.b_len (ev_name 2) (.inl (.inl (.inl hfa))))) fun H6 e6 => ?_
  refine ite2 (fun hd => ?_) (fun hd => ?_)
  · have hlt' : k < fl.length := by
      have := of_decide_eq_true hd
      rw [List.length_map] at this
      omega
    have e56 := e5.trans e6
    have hun : fl[k] < n := hfn _ (List.getElem_mem _)
    have huc : fl[k] < cs.length := by omega
    have cu0 := c3 fl[k] _ (List.getElem?_eq_getElem huc)
    have cu := e56 _ _ cu0
    refine bw_cons (sw_forL PassesOwn.never (p := cs[fl[k]]) (xs := (cl fl[k]).map iV) (ev_ixLn fl[k] (ev_fld (ev_name 0) (rm_fl T (e56 _ _ ob)).2.2.2) (ev_ixLn k (ev_name 2) (ev_name 4) (.inl (.inl (e6 _ _ hfa))) (ws_get hlt')) (.inl (.inl (e56 _ _ c1))) (by rw [List.getElem?_map, List.getElem?_eq_getElem huc]; rfl) rfl) (.inl (.inl cu)) (fun i σ' H'' => ∃ (z : Option V) (ex : List Nat) (kvs : List (Key × V)), σ' = [some (.ref r), some (.ref p), some (.ref fa), some (.ref sa), some (.int (k : Int)), z, none] ∧ Ex H H'' ∧ H'' fa = some (.lst ((fl ++ ex).map iV)) ∧ H'' sa = some (.dK kvs) ∧ Kd n kvs (fun i => if i ∈ fl ++ ex then some (.bl true) else none) ∧ (fl ++ ex).Nodup ∧ (∀ x ∈ fl ++ ex, Rch n (Rb W F) (inP ps) x) ∧ (∀ v ∈ (cl fl[k]).take i, Rb W F fl[k] v → v ∈ fl ++ ex) ∧ H'' cs[fl[k]] = some (.lst ((cl fl[k]).map iV))) ?_ ?_ ?_ ?_)
    · intro H7 e7
      exact ⟨_, [], kvs, rfl, e56.trans e7, by rw [List.append_nil]; exact e7 _ _ (e6 _ _ hfa), e7 _ _ (e6 _ _ hsa), by rw [List.append_nil]; exact hkd, by rw [List.append_nil]; exact hnd', by rw [List.append_nil]; exact hrch, fun v hv => by simp at hv, e7 _ _ cu⟩
    · rintro i σ' H'' _ ⟨_, _, _, _, _, _, _, _, _, _, _, h⟩
      exact .inl (.inl h)
    · rintro i x σ' H'' hi ⟨z, ex, kvs, rfl, e7, hfa7, hsa7, hkd7, hnd7, hrch7, hcl7, hc7⟩
      rw [List.getElem?_map] at hi
      obtain ⟨v, hv, rfl⟩ : ∃ v, (cl fl[k])[i]? = some v ∧ iV v = x := by
        cases e : (cl fl[k])[i]? with
        | none => rw [e] at hi; cases hi
        | some v =>
          rw [e] at hi
          exact ⟨v, rfl, Option.some.inj hi⟩
      obtain ⟨hvn, hvu, huv⟩ := ok.in_ _ v hun (List.mem_of_getElem? hv)
      have hget : ((fl ++ ex).map iV)[k]? = some (iV fl[k]) := by
        rw [List.getElem?_map, List.getElem?_append_left hlt', List.getElem?_eq_getElem hlt']
        rfl
      have R7 := R.mono e7
      obtain ⟨⟨dx7, wd7, cd7, ob7, _⟩, _⟩ := id R7
      refine gw_name 5 (bw_one (sw_ifV (k := (!(if v ∈ fl ++ ex then some (V.bl true) else none).isSome) && decide (0 < W v fl[k] - F v fl[k])) (tv_bool (wv_and (tv_is (tv_niK (n := (v : Int)) hu (ev_name 5) (ev_name 3) (.inl hsa7)) (by rw [← hkd7.val v]; rfl)) fun _ => wv_one_and (tv_gt (ev_meth hsp T.cRooms.cl hr (ev_name 0) ob7 rfl (av_cons (ev_name 5) (av_cons (ev_ixLn k (ev_name 2) (ev_name 4) (.inl (.inl hfa7)) hget) av_nil)) (fun H8 e8 => ⟨r, v, fl[k], rfl, bd, n, W, F, cl, R7.mono e8, hvn, hun, rfl⟩)) ev_int))) ?_ ?_))
      · intro hb H8 e8
        rw [Bool.and_eq_true] at hb
        have hvn' : v ∉ fl ++ ex := fun z => by
          have := hb.1
          rw [if_pos z] at this
          cases this
        have hroom : Rb W F fl[k] v := by
          have := of_decide_eq_true hb.2
          show F v fl[k] < W v fl[k]
          omega
        have hu' := hkd7.small hle.2
        refine bw_cons (sw_dput hu (EVgo ev_bl fun H9 e9 => EVgo (ev_name 3) fun Ha ea => EVgo (ev_name 5) fun Hb eb => ⟨sa, _, rfl, DPut.k (k := pk v) (((e8.trans e9).trans (ea.trans eb)) _ _ hsa7) hu', ?_⟩))
        have e8b := (e8.trans e9).trans (ea.trans eb)
        have hfab := e8b _ _ hfa7
        refine bw_one (sw_expr (ew_append (l := fa) (ev_name 2) ⟨(fl ++ ex).map iV, by rw [upd_ne nfs]; exact hfab⟩ fun Hc ec => EVgo (ev_name 5) fun Hd ed => ⟨_, ed _ _ (ec _ _ (by rw [upd_ne nfs]; exact hfab)), ?_, ?_⟩))
        · rw [List.length_map]
          have := nodup_lt n _ hnd7 fun x hx => (hrch7 x hx).lt
          exact Evl.sz_lt (by omega)
        · have nsc : cs[fl[k]] ≠ sa := fun z => by
            rw [z, hsa7] at hc7
            cases hc7
          have nfc : fa ≠ cs[fl[k]] := fun z => by
            rw [← z, fF] at cu0
            cases cu0
          have kk : Km [fa, sa] H (upd Hd fa (.lst ((fl ++ ex).map iV ++ [iV v]))) := (((Km.of (M := [fa, sa]) (e7.trans e8b)).upd (p := sa) (by simp)).trans (Km.of (ec.trans ed))).upd (by simp)
          refine ⟨_, ex ++ [v], _, rfl, Km.nil ((Km.of (M := []) (Ex.refl H)).drop kk (by simp [fF, fS])), ?_, ?_, (hkd7.put hvn (.bl true)).ext fun i => ?_, ?_, ?_, ?_, ?_⟩
          · rw [upd_same, ← List.append_assoc, List.map_append (l₂ := [v])]
            rfl
          · rw [upd_ne (Ne.symm nfs)]
            exact ed _ _ (ec _ _ upd_same)
          · by_cases e : i = v
            · rw [if_pos e, if_pos (by rw [e]; simp)]
            · rw [if_neg e]
              by_cases e' : i ∈ fl ++ ex
              · rw [if_pos e', if_pos (by rw [← List.append_assoc]; exact List.mem_append_left _ e')]
              · rw [if_neg e', if_neg fun z => by
                  rw [← List.append_assoc] at z
                  rcases List.mem_append.mp z with z | z
                  · exact e' z
                  · exact e (List.mem_singleton.mp z)]
          · rw [← List.append_assoc]
            refine List.nodup_append.mpr ⟨hnd7, by simp, fun a ha b hb => ?_⟩
            rw [List.mem_singleton.mp hb]
            exact fun z => hvn' (z ▸ ha)
          · intro x hx
            rw [← List.append_assoc] at hx
            rcases List.mem_append.mp hx with h | h
            · exact hrch7 x h
            · rw [List.mem_singleton.mp h]
              exact .step (hrch7 _ (List.mem_append_left _ (List.getElem_mem hlt'))) hvn hroom
          · intro x hx hr
            rw [take_snoc hv] at hx
            rw [← List.append_assoc]
            rcases List.mem_append.mp hx with h | h
            · exact List.mem_append_left _ (hcl7 x h hr)
            · exact List.mem_append_right _ h
          · rw [upd_ne (Ne.symm nfc)]
            refine ed _ _ (ec _ _ ?_)
            rw [upd_ne nsc]
            exact e8b _ _ hc7
      · intro hb H8 e8
        refine bw_nil ⟨_, ex, kvs, rfl, e7.trans e8, e8 _ _ hfa7, e8 _ _ hsa7, hkd7, hnd7, hrch7, fun x hx hr => ?_, e8 _ _ hc7⟩
        rw [take_snoc hv] at hx
        rcases List.mem_append.mp hx with h | h
        · exact hcl7 x h hr
        · have hx : x = v := List.mem_singleton.mp h
          rw [hx] at hr ⊢
          refine Decidable.byContradiction fun hc => ?_
          rw [if_neg hc] at hb
          have hr' : F v fl[k] < W v fl[k] := hr
          have : decide (0 < W v fl[k] - F v fl[k]) = true := decide_eq_true (by omega)
          rw [this] at hb
          cases hb
    · rintro σ' H'' ⟨z, ex, kvs, rfl, e7, hfa7, hsa7, hkd7, hnd7, hrch7, hcl7, hc7⟩
      refine bw_one (sw_augP 4 rfl (EVgo ev_int fun H8 e8 => ⟨rfl, n - (k + 1), by omega, k + 1, _, fl ++ ex, kvs, rfl, rfl, by rw [List.length_append]; omega, e7.trans e8, e8 _ _ hfa7, e8 _ _ hsa7, hkd7, hnd7, fun x hx => List.mem_append_left _ (hsub x hx), hrch7, fun u hu v hv hr => ?_⟩))
      rw [List.take_append_of_le_length (by omega), take_snoc (List.getElem?_eq_getElem hlt')] at hu
      rcases List.mem_append.mp hu with h | h
      · exact List.mem_append_left _ (hcls u h v hv hr)
      · rw [List.mem_singleton.mp h] at hr
        rw [List.length_map, List.take_length] at hcl7
        exact hcl7 v (covB ok cov hun hv (by have hr2 : F v fl[k] < W v fl[k] := hr; omega)) hr
  · have hk' : k = fl.length := by
      have : ¬ ((k : Int) < (((fl.map iV).length : Nat) : Int)) := fun z => hd (decide_eq_true z)
      rw [List.length_map] at this
      omega
    rw [hk', List.take_length] at hcls
    refine bw_one (sw_ret (ew_Ty call_tuple_of T.b.b_tuple (aw_cons (ew_B cr_sorted T.b.b_sorted (aw_cons (EVgo (ev_name 2) fun H7 e7 => aw_nil ⟨fa, fl.map (fun x : Nat => (x : Int)), rfl, .inl (.inl ?_), ?_, fun ns p2 hperm hsrt np2 => ?_⟩))))))
    · rw [← iV_map]
      exact e7 _ _ (e6 _ _ hfa)
    · rw [List.length_map]
      omega
    · obtain ⟨l, rfl, hl⟩ := perm_nat hperm
      refine aw_nil ⟨p2, _, rfl, .inl ⟨.inl (.inl upd_same), fun t nt => q t l _ (((e5.trans e6).trans e7).trans ((Ex.new np2).trans (Ex.new nt))) (by rw [upd_same, iV_map]) (lt_of_le hsrt (hl.nodup_iff.mpr hnd')) fun v => ?_⟩⟩
      rw [hl.mem_iff]
      refine ⟨hrch v, fun h => ?_⟩
      induction h with
      | base hv h => exact hsub _ (inP_iff.mp h)
      | step h hv rr ih => exact hcls _ ih _ hv rr
end
end Cut


namespace Cut
open PySem PySem.Spec PyProof.Rows L2 Evl
/-! ### equality of whole things: numbers, lists, tuples -/
mutual
def okD : PyData → Bool
  | .int _ => true
  | .list xs | .tuple xs => okA xs
  | _ => false
def okA : List PyData → Bool
  | [] => true
  | x :: xs => okD x && okA xs
end
mutual
theorem okD_eq : ∀ d e : PyData, okD d = true → okD e = true → PyData.eqv d e = true → d = e
  | .int i, e, _, he, h => by
    cases e <;> simp_all [okD, PyData.eqv]
  | .list xs, e, hd, he, h => by
    cases e <;> simp_all [okD, PyData.eqv]
    exact okA_eq _ _ hd he h
  | .tuple xs, e, hd, he, h => by
    cases e <;> simp_all [okD, PyData.eqv]
    exact okA_eq _ _ hd he h
  | .none, _, hd, _, _ => by simp [okD] at hd
  | .bool _, _, hd, _, _ => by simp [okD] at hd
  | .str _, _, hd, _, _ => by simp [okD] at hd
  | .dict _, _, hd, _, _ => by simp [okD] at hd
theorem okA_eq : ∀ xs ys : List PyData, okA xs = true → okA ys = true → PyData.eqvAll xs ys = true → xs = ys
  | [], [], _, _, _ => rfl
  | [], y :: ys, _, _, h => by simp [PyData.eqvAll] at h
  | x :: xs, [], _, _, h => by simp [PyData.eqvAll] at h
  | x :: xs, y :: ys, hx, hy, h => by
    simp only [okA, Bool.and_eq_true, PyData.eqvAll] at hx hy h
    rw [okD_eq x y hx.1 hy.1 h.1, okA_eq xs ys hx.2 hy.2 h.2]
end
mutual
theorem okD_lay : ∀ d : PyData, okD d = true → d.canLay0 = true
  | .int i, _ => by simp [PyData.canLay0]
  | .list xs, h => by
    simp only [okD] at h
    simp only [PyData.canLay0]
    exact okA_lay xs h
  | .tuple xs, h => by
    simp only [okD] at h
    simp only [PyData.canLay0]
    exact okA_lay xs h
  | .none, hd => by simp [okD] at hd
  | .bool _, hd => by simp [okD] at hd
  | .str _, hd => by simp [okD] at hd
  | .dict _, hd => by simp [okD] at hd
theorem okA_lay : ∀ xs : List PyData, okA xs = true → PyData.canLayAll0 xs = true
  | [], _ => by simp [PyData.canLayAll0]
  | x :: xs, h => by
    simp only [okA, Bool.and_eq_true] at h
    simp only [PyData.canLayAll0, Bool.and_eq_true]
    exact ⟨okD_lay x h.1, okA_lay xs h.2⟩
end
theorem okA_map {α : Type} {f : α → PyData} : ∀ {l : List α}, (∀ a ∈ l, okD (f a) = true) → okA (l.map f) = true
  | [], _ => by simp [okA]
  | a :: l, h => by
    simp only [List.map_cons, okA, Bool.and_eq_true]
    exact ⟨h a List.mem_cons_self, okA_map fun b hb => h b (List.mem_cons_of_mem _ hb)⟩
theorem depA_map {α : Type} {f : α → PyData} {c : Nat} : ∀ {l : List α}, (∀ a ∈ l, (f a).depth ≤ c) → PyData.depthAll (l.map f) ≤ c
  | [], _ => by simp [PyData.depthAll]
  | a :: l, h => by
    simp only [List.map_cons, PyData.depthAll]
    exact Nat.max_le.mpr ⟨h a List.mem_cons_self, depA_map fun b hb => h b (List.mem_cons_of_mem _ hb)⟩
/-- rows of numbers, rows of flows, as they are read -/
def dI (l : List Int) : List PyData := l.map .int
def dAm (m : Nat) : PyData := .tuple [.int (loA m : Nat), .int (loB m : Nat)]
def dRw (t : Rw) : PyData := .tuple [.int (t.1 : Nat), .int (t.2.1 : Nat), dAm t.2.2]
theorem okA_dI (l : List Int) : okA (dI l) = true := okA_map fun a _ => by simp [okD]
theorem dep_dI (l : List Int) : PyData.depthAll (dI l) ≤ 0 := depA_map fun a _ => by simp [PyData.depth]
theorem ok_dRw (t : Rw) : okD (dRw t) = true := by simp [dRw, dAm, okD, okA]
theorem dep_dRw (t : Rw) : (dRw t).depth ≤ 2 := by simp [dRw, dAm, PyData.depth, PyData.depthAll]
theorem sh_of {d : PyData} (h : okD d = true) (h2 : d.depth ≤ 64) : SeqAt.shaped d = true := by
  unfold SeqAt.shaped
  rw [okD_lay d h, Bool.true_and]
  exact decide_eq_true h2
theorem shL {xs : List PyData} (h : okA xs = true) (h2 : PyData.depthAll xs ≤ 60) : SeqAt.shaped (.list xs) = true := sh_of (by simp only [okD]; exact h) (by simp only [PyData.depth]; omega)
theorem shT {xs : List PyData} (h : okA xs = true) (h2 : PyData.depthAll xs ≤ 60) : SeqAt.shaped (.tuple xs) = true := sh_of (by simp only [okD]; exact h) (by simp only [PyData.depth]; omega)
theorem eqv_iff {d e : PyData} (hd : okD d = true) (he : okD e = true) : PyData.eqv d e = true ↔ d = e := ⟨okD_eq d e hd he, fun h => by rw [← h]; exact SeqAt.eqv_refl d (okD_lay d hd)⟩
theorem eqv_listL {xs ys : List PyData} (hx : okA xs = true) (hy : okA ys = true) : PyData.eqv (.list xs) (.list ys) = true ↔ xs = ys := by
  rw [eqv_iff (by simp only [okD]; exact hx) (by simp only [okD]; exact hy)]
  exact ⟨fun h => by injection h, fun h => by rw [h]⟩
theorem eqv_tup {xs ys : List PyData} (hx : okA xs = true) (hy : okA ys = true) : PyData.eqv (.tuple xs) (.tuple ys) = true ↔ xs = ys := by
  rw [eqv_iff (by simp only [okD]; exact hx) (by simp only [okD]; exact hy)]
  exact ⟨fun h => by injection h, fun h => by rw [h]⟩
theorem eqv_nil {xs : List PyData} : PyData.eqv (.list xs) (.list []) = xs.isEmpty := by
  cases xs <;> simp [PyData.eqv, PyData.eqvAll]
theorem dI_inj {l k : List Int} : dI l = dI k ↔ l = k := by
  unfold dI
  exact ⟨fun h => (List.map_inj_right fun a b z => by injection z).mp h, fun h => by rw [h]⟩
section
variable {K : PySem.W.Frag} {H : Hp}
theorem dp_ints : ∀ l : List Int, DpAll K H (l.map V.int) (dI l)
  | [] => .nil
  | a :: l => .cons (.int a) (dp_ints l)
theorem dp_iV (l : List Nat) : DpAll K H (l.map iV) (dI (l.map fun x : Nat => (x : Int))) := by
  rw [iV_map]
  exact dp_ints _
theorem Tp.dp {p : Addr} {a b : Int} (h : Tp K H p [.int a, .int b]) : Dp K H (.ref p) (.tuple [.int a, .int b]) := .tup h.sq (.cons (.int a) (.cons (.int b) .nil))
theorem Amt.dp {v : V} {m : Nat} (h : Amt K H v m) : Dp K H v (dAm m) := by
  obtain ⟨p, rfl, h⟩ := h
  exact h.dp
theorem RowR.dp {t : Rw} {y : V} (h : RowR K t y H) : Dp K H y (dRw t) := by
  obtain ⟨q, a, rfl, h1, h2⟩ := h
  exact .tup (SqT.of h1) (.cons (.int _) (.cons (.int _) (.cons h2.dp .nil)))
theorem dp_rows : ∀ {l : List Rw} {ys : List V}, AllR (RowR K) l ys H → DpAll K H ys (l.map dRw)
  | [], [], _ => .nil
  | [], y :: ys, h => by cases h.1
  | a :: l, [], h => by cases h.1
  | a :: l, y :: ys, h => .cons (h.2 0 a y rfl rfl).dp (dp_rows ⟨Nat.succ.inj h.1, fun k b z h3 h4 => h.2 (k + 1) b z h3 h4⟩)
theorem allR_map {α : Type} {g : α → V} : ∀ {l : List α} {ys : List V}, AllR (fun a y _ => y = g a) l ys H → ys = l.map g
  | [], [], _ => rfl
  | [], y :: ys, h => by cases h.1
  | a :: l, [], h => by cases h.1
  | a :: l, y :: ys, h => by
    have h1 : y = g a := h.2 0 a y rfl rfl
    have h2 : AllR (fun a y _ => y = g a) l ys H := ⟨Nat.succ.inj h.1, fun k b z h3 h4 => h.2 (k + 1) b z h3 h4⟩
    rw [h1, allR_map h2]
    rfl
theorem dAm_inj {m k : Nat} : dAm m = dAm k ↔ m = k := by
  constructor
  · intro h
    unfold dAm at h
    simp only [PyData.tuple.injEq, List.cons.injEq, PyData.int.injEq, and_true] at h
    exact lo_inj (by omega) (by omega)
  · intro h
    rw [h]
end
section
variable {X : Cx} {σ : L2.St} {H : Hp} {pos : Pos} {a b : Expr} {x y : V} {d e : PyData} {k : Bool}
theorem rv_eqD {r : R2} (hr : r = rEqD X.K) (hx : ∀ H1, Ex H H1 → Dp X.K H1 x d) (hy : ∀ H1, Ex H H1 → Dp X.K H1 y e) (sd : SeqAt.shaped d = true) (se : SeqAt.shaped e = true) : Evl.RV r x y H (.bl (PyData.eqv d e)) := by
  subst hr
  exact fun H1 e1 Q q => ⟨d, e, hx H1 e1, hy H1 e1, sd, se, q H1 (Ex.refl H1)⟩
theorem rv_neD {r : R2} (hr : r = rNeD X.K) (hx : ∀ H1, Ex H H1 → Dp X.K H1 x d) (hy : ∀ H1, Ex H H1 → Dp X.K H1 y e) (sd : SeqAt.shaped d = true) (se : SeqAt.shaped e = true) : Evl.RV r x y H (.bl (!PyData.eqv d e)) := by
  subst hr
  exact fun H1 e1 Q q => ⟨d, e, hx H1 e1, hy H1 e1, sd, se, q H1 (Ex.refl H1)⟩
theorem ev_eqD (hu : X.A.units + 64 < cLine) (ha : EV X a σ H x) (hb : EV X b σ H y) (hx : ∀ H1, Ex H H1 → Dp X.K H1 x d) (hy : ∀ H1, Ex H H1 → Dp X.K H1 y e) (sd : SeqAt.shaped d = true) (se : SeqAt.shaped e = true) (hk : PyData.eqv d e = k) : EV X (.Compare a [.Eq] [b] pos) σ H (.bl k) :=
  ev_of (pe_cmpR (op_eqD hu) pe_w pe_w (nomark _)) (Evl.ev_op ha hb (hk ▸ rv_eqD rfl hx hy sd se))
theorem tv_eqD (hu : X.A.units + 64 < cLine) (ha : EV X a σ H x) (hb : EV X b σ H y) (hx : ∀ H1, Ex H H1 → Dp X.K H1 x d) (hy : ∀ H1, Ex H H1 → Dp X.K H1 y e) (sd : SeqAt.shaped d = true) (se : SeqAt.shaped e = true) (hk : PyData.eqv d e = k) : TV X (.Compare a [.Eq] [b] pos) σ H k :=
  tv_of (pt_cmpR (op_eqD hu) pe_w pe_w (nomark _)) (Evl.et_test (Evl.ev_op ha hb (hk ▸ rv_eqD rfl hx hy sd se)))
theorem tv_neD (hu : X.A.units + 64 < cLine) (ha : EV X a σ H x) (hb : EV X b σ H y) (hx : ∀ H1, Ex H H1 → Dp X.K H1 x d) (hy : ∀ H1, Ex H H1 → Dp X.K H1 y e) (sd : SeqAt.shaped d = true) (se : SeqAt.shaped e = true) (hk : (!PyData.eqv d e) = k) : TV X (.Compare a [.NotEq] [b] pos) σ H k :=
  tv_of (pt_cmpR (op_neD hu) pe_w pe_w (nomark _)) (Evl.et_test (Evl.ev_op ha hb (hk ▸ rv_neD rfl hx hy sd se)))
/-- against a list or tuple that is new -/
theorem tv_eqNil (hu : X.A.units + 64 < cLine) {p2 : Pos} {ds : List PyData} (ha : EV X a σ H x) (hx : ∀ H1, Ex H H1 → Dp X.K H1 x (.list ds)) (sd : SeqAt.shaped (.list ds) = true) : TV X (.Compare a [.Eq] [.List [] p2] pos) σ H ds.isEmpty :=
  tv_of (pt_cmpR (op_eqD hu) pe_w pe_w (nomark _)) fun H1 e1 Q q => ha H1 e1 _ fun H2 e2 => ELgo (evl_lst av_nil) fun p H3 np e3 hp => ⟨_, _, hx H3 ((e1.trans e2).trans e3), .lst (.inl (.inl hp)) .nil, sd, by decide, by
    rw [eqv_nil]
    exact ⟨ds.isEmpty, rfl, q H3 (e2.trans e3)⟩⟩
/-- .. a new list against [] -/
theorem ev_eqNilL (hu : X.A.units + 64 < cLine) {p2 : Pos} {xs : List V} {ds : List PyData} (ha : EVL X a σ H xs) (hx : ∀ H1, Ex H H1 → DpAll X.K H1 xs ds) (sd : SeqAt.shaped (.list ds) = true) : EV X (.Compare a [.Eq] [.List [] p2] pos) σ H (.bl ds.isEmpty) :=
  ev_of (pe_cmpR (op_eqD hu) pe_w pe_w (nomark _)) fun H1 e1 Q q => ha H1 e1 _ fun p H2 np e2 hp => ELgo (evl_lst av_nil) fun p' H3 np' e3 hp' => ⟨_, _, .lst (.inl (.inl (e3 _ _ hp))) (hx H3 ((e1.trans e2).trans e3)), .lst (.inl (.inl hp')) .nil, sd, by decide, by
    rw [eqv_nil]
    exact q H3 (e2.trans e3)⟩
theorem ev_neNilL (hu : X.A.units + 64 < cLine) {p2 : Pos} {xs : List V} {ds : List PyData} (ha : EVL X a σ H xs) (hx : ∀ H1, Ex H H1 → DpAll X.K H1 xs ds) (sd : SeqAt.shaped (.list ds) = true) : EV X (.Compare a [.NotEq] [.List [] p2] pos) σ H (.bl (!ds.isEmpty)) :=
  ev_of (pe_cmpR (op_neD hu) pe_w pe_w (nomark _)) fun H1 e1 Q q => ha H1 e1 _ fun p H2 np e2 hp => ELgo (evl_lst av_nil) fun p' H3 np' e3 hp' => ⟨_, _, .lst (.inl (.inl (e3 _ _ hp))) (hx H3 ((e1.trans e2).trans e3)), .lst (.inl (.inl hp')) .nil, sd, by decide, by
    rw [eqv_nil]
    exact q H3 (e2.trans e3)⟩
theorem tv_neNilL (hu : X.A.units + 64 < cLine) {p2 : Pos} {xs : List V} {ds : List PyData} (ha : EVL X a σ H xs) (hx : ∀ H1, Ex H H1 → DpAll X.K H1 xs ds) (sd : SeqAt.shaped (.list ds) = true) : TV X (.Compare a [.NotEq] [.List [] p2] pos) σ H (!ds.isEmpty) :=
  tv_of (pt_cmpR (op_neD hu) pe_w pe_w (nomark _)) fun H1 e1 Q q => ha H1 e1 _ fun p H2 np e2 hp => ELgo (evl_lst av_nil) fun p' H3 np' e3 hp' => ⟨_, _, .lst (.inl (.inl (e3 _ _ hp))) (hx H3 ((e1.trans e2).trans e3)), .lst (.inl (.inl hp')) .nil, sd, by decide, by
    rw [eqv_nil]
    exact ⟨_, rfl, q H3 (e2.trans e3)⟩⟩
end
end Cut


namespace Cut
open PySem PySem.Spec PyProof.Rows L2 Evl
/-- steps back from the tos -/
structure Lab0 (n : Nat) (W F : Mx) (fs ts : List Nat) (least : Int) (g : Nat → Option Nat) : Prop where
  lt : ∀ v k, g v = some k → v < n
  zero : ∀ v, g v = some 0 ↔ v ∈ ts
  down : ∀ v k, g v = some (k + 1) → ∃ u, u < n ∧ g u = some k ∧ u ∉ fs ∧ least ≤ W v u - F v u
structure Lab (n : Nat) (W F : Mx) (fs ts : List Nat) (least : Int) (g : Nat → Option Nat) : Prop extends Lab0 n W F fs ts least g where
  closed : ∀ u v, g u ≠ none → u ∉ fs → v < n → least ≤ W v u - F v u → g v ≠ none
def gV (g : Nat → Option Nat) : Nat → Option V := fun i => (g i).map fun (k : Nat) => V.int (k : Int)
theorem isSome_gV {g : Nat → Option Nat} {i : Nat} : (gV g i).isSome = (g i).isSome := by
  unfold gV
  cases g i <;> rfl
/-- two ends, apart -/
structure EndsOk (n : Nat) (fs ts : List Nat) : Prop where
  fnd : fs.Pairwise (· < ·)
  tnd : ts.Pairwise (· < ·)
  flt : ∀ x ∈ fs, x < n
  tlt : ∀ x ∈ ts, x < n
  dis : ∀ x ∈ fs, x ∉ ts
  fne : fs ≠ []
  tne : ts ≠ []
theorem pw_nd {l : List Nat} (h : l.Pairwise (· < ·)) : l.Nodup := h.imp fun h => by omega
section
variable {P : Program} {w : World} {K : PySem.W.Frag} {mg : Str → Option Value} {base : Heap} {CR CW CN CH : Addr}
def spSteps (K : PySem.W.Frag) (CR : Addr) : Sp := fun vs H Q _ => ∃ (r pf pt : Addr) (least : Int), vs = [.ref r, .ref pf, .ref pt, .int least] ∧ ∃ bd n W F cl fs ts, RmAt CR H r bd n W F cl ∧ ClOk n cl ∧ CovR n W F cl ∧ Tp K H pf (fs.map iV) ∧ Tp K H pt (ts.map iV) ∧ EndsOk n fs ts ∧ 1 ≤ least ∧
  ∀ (d : Addr) (kvs : List (Key × V)) (g : Nat → Option Nat) (H' : Hp), Ex H H' → H' d = some (.dK kvs) → Kd n kvs (gV g) → Lab n W F fs ts least g → Q (.ref d) H'
/-! steps_to: slots 0 rooms, 1 froms, 2 tos, 3 least, 4 steps, 5 waiting, 6 at, 7 place, 8 other -/
theorem sc_steps_to : FnScope ["rooms", "froms", "tos", "least", "steps", "waiting", "at", "place", "other"] ["rooms", "froms", "tos", "least"] (defScope s_steps_to) := ⟨rfl, rfl, rfl, by decide +kernel, rfl, by decide +kernel, by decide +kernel⟩
theorem ok_steps_to (T : Tops K mg CR CW CN CH) (hsp : HasM P w K mg base CR 1 "spare" ["self", "i", "j"] (spSpare CR)) : Has P w K mg base 2 "steps_to" ["rooms", "froms", "tos", "least"] (spSteps K CR) := by
  refine has_of (k := 1) T.steps_to sc_steps_to (fun _ _ _ _ _ _ us hl => match us, hl with | [_, _, _, _], _ => rfl) (fun vs H Q E h => by
    obtain ⟨r, pf, pt, least, rfl, _⟩ := h
    rfl) ?_
  intro f cdv A outer s H0 H vs Q E E0 hr h
  obtain ⟨r, pf, pt, least, rfl, bd, n, W, F, cl, fs, ts, R, ok, cov, hfs, hts, en, hl1, q⟩ := h
  have nd := (sc_steps_to).nd
  have hu := hu_of hr
  have hle := R.le
  have tnd := pw_nd en.tnd
  obtain ⟨⟨dx, wd, cd, ob, _, _, ⟨cs, c1, c2, c3⟩⟩, _⟩ := id R
  refine bw_cons (sw_set 4 (ew_dictC [("place", 7)] 7 T.b.b_dict (ev_name 2) hts hle.2 tnd en.tlt (c := .int 0) (fun v H1 s0 H0 C cl fp => ev_int) (fun sa kvs H3 e3 fS hsa hkd => ?_) (fun s0 H0 C cl fp v H1 => gv_name 7) (fun s0 H0 C cl fp v H1 => ev_name 7)))
  refine bw_cons (sw_set 5 (ew_Ty call_list_of T.b.b_list (aw_cons (EVgo (ev_name 2) fun H1 e1 => aw_nil ⟨pt, _, rfl, .inr ((hts.mono e3).mono e1).sq, fun fa nfa => ?_⟩))))
  have fF : H fa = none := Evl.fresh_back (e3.trans e1) nfa
  have nfs : fa ≠ sa := fun z => by
    rw [z, e1 _ _ hsa] at nfa
    cases nfa
  have e2 : Ex H (upd H1 fa (.lst (ts.map iV))) := (e3.trans e1).trans (Ex.new nfa)
  have hf2 : (upd H1 fa (.lst (ts.map iV))) fa = some (.lst (ts.map iV)) := upd_same
  have hs2 : (upd H1 fa (.lst (ts.map iV))) sa = some (.dK kvs) := Ex.new nfa _ _ (e1 _ _ hsa)
  generalize upd H1 fa (.lst (ts.map iV)) = H2 at e2 hf2 hs2
  refine bw_cons (sw_set 6 (EVgo ev_int fun H4 e4 => ?_))
  refine bw_cons (sw_whileM PassesOwn.never (fun m σ' H' => ∃ (k : Nat) (z z' : Option V) (fl : List Nat) (kvs : List (Key × V)) (g : Nat → Option Nat), σ' = [some (.ref r), some (.ref pf), some (.ref pt), some (.int least), some (.ref sa), some (.ref fa), some (.int (k : Int)), z, z'] ∧ m = n - k ∧ k ≤ fl.length ∧ Ex H H' ∧ H' fa = some (.lst (fl.map iV)) ∧ H' sa = some (.dK kvs) ∧ Kd n kvs (gV g) ∧ fl.Nodup ∧ Lab0 n W F fs ts least g ∧ (∀ x, x ∈ fl ↔ g x ≠ none ∧ x ∉ fs) ∧ ∀ u ∈ fl.take k, ∀ v, v < n → least ≤ W v u - F v u → g v ≠ none) n ⟨0, _, _, ts, kvs, fun i => if i ∈ ts then some 0 else none, rfl, by omega, Nat.zero_le _, e2.trans e4, e4 _ _ hf2, e4 _ _ hs2, hkd.ext fun i => ?_, tnd, ⟨fun v k h => ?_, fun v => ?_, fun v k h => ?_⟩, fun x => ?_, fun u hu => by simp at hu⟩ ?_)
  · dsimp only [gV]
    by_cases h : i ∈ ts
    · rw [if_pos h, if_pos h]
      rfl
    · rw [if_neg h, if_neg h]
      rfl
  · by_cases h' : v ∈ ts
    · exact en.tlt v h'
    · rw [if_neg h'] at h
      cases h
  · by_cases h' : v ∈ ts
    · rw [if_pos h']
      exact ⟨fun _ => h', fun _ => rfl⟩
    · rw [if_neg h']
      exact ⟨fun z => (by cases z), fun z => absurd z h'⟩
  · by_cases h' : v ∈ ts
    · rw [if_pos h'] at h
      cases h
    · rw [if_neg h'] at h
      cases h
  · dsimp only
    by_cases h' : x ∈ ts
    · rw [if_pos h']
      exact ⟨fun _ => ⟨fun z => (by cases z), fun z => en.dis x z h'⟩, fun _ => h'⟩
    · rw [if_neg h']
      exact ⟨fun z => absurd z h', fun z => absurd rfl z.1⟩
  rintro m σ' H' ⟨k, z, z', fl, kvs, g, rfl, rfl, hk, e5, hfa, hsa, hkd, hnd', hlab, hmem, hcls⟩
  have hfn : ∀ x ∈ fl, x < n := fun x hx => by
    have h1 := ((hmem x).mp hx).1
    cases e : g x with
    | none => exact absurd e h1
    | some k => exact hlab.lt x k e
  have hfl : fl.length ≤ n := nodup_lt n fl hnd' hfn
  refine TVgo (tv_lt (ev_name 6) (ev_len T.b.b_len (ev_name 5) (.inl (.inl (.inl hfa))))) fun H6 e6 => ?_
  refine ite2 (fun hd => ?_) (fun hd => ?_)
  · have hlt' : k < fl.length := by
      have := of_decide_eq_true hd
      rw [List.length_map] at this
      omega
    refine bw_cons (sw_set 7 (EVgo (ev_ixLn k (ev_name 5) (ev_name 6) (.inl (.inl (e6 _ _ hfa))) (ws_get hlt')) fun H6' e6' => ?_))
    have e56 := e5.trans (e6.trans e6')
    have hun : fl[k] < n := hfn _ (List.getElem_mem _)
    have huf : fl[k] ∉ fs := ((hmem _).mp (List.getElem_mem hlt')).2
    obtain ⟨ku, hku⟩ : ∃ ku, g fl[k] = some ku := Option.ne_none_iff_exists'.mp ((hmem _).mp (List.getElem_mem hlt')).1
    have huc : fl[k] < cs.length := by omega
    have cu0 := c3 fl[k] _ (List.getElem?_eq_getElem huc)
    have cu := e56 _ _ cu0
    refine bw_cons (sw_forL PassesOwn.never (p := cs[fl[k]]) (xs := (cl fl[k]).map iV) (ev_ixLn fl[k] (ev_fld (ev_name 0) (rm_fl T (e56 _ _ ob)).2.2.2) (ev_name 7) (.inl (.inl (e56 _ _ c1))) (by rw [List.getElem?_map, List.getElem?_eq_getElem huc]; rfl) rfl) (.inl (.inl cu)) (fun i σ' H'' => ∃ (z : Option V) (ex : List Nat) (kvs : List (Key × V)) (g : Nat → Option Nat), σ' = [some (.ref r), some (.ref pf), some (.ref pt), some (.int least), some (.ref sa), some (.ref fa), some (.int (k : Int)), some (iV fl[k]), z] ∧ Ex H H'' ∧ H'' fa = some (.lst ((fl ++ ex).map iV)) ∧ H'' sa = some (.dK kvs) ∧ Kd n kvs (gV g) ∧ (fl ++ ex).Nodup ∧ Lab0 n W F fs ts least g ∧ (∀ x, x ∈ fl ++ ex ↔ g x ≠ none ∧ x ∉ fs) ∧ g fl[k] = some ku ∧ (∀ u ∈ fl.take k, ∀ v, v < n → least ≤ W v u - F v u → g v ≠ none) ∧ (∀ v ∈ (cl fl[k]).take i, least ≤ W v fl[k] - F v fl[k] → g v ≠ none) ∧ H'' cs[fl[k]] = some (.lst ((cl fl[k]).map iV))) ?_ ?_ ?_ ?_)
    · intro H7 e7
      exact ⟨_, [], kvs, g, rfl, e56.trans e7, by rw [List.append_nil]; exact e7 _ _ (e6' _ _ (e6 _ _ hfa)), e7 _ _ (e6' _ _ (e6 _ _ hsa)), hkd, by rw [List.append_nil]; exact hnd', hlab, by rw [List.append_nil]; exact hmem, hku, hcls, fun v hv => by simp at hv, e7 _ _ cu⟩
    · rintro i σ' H'' _ ⟨_, _, _, _, _, _, _, _, _, _, _, _, _, _, _, h⟩
      exact .inl (.inl h)
    · rintro i x σ' H'' hi ⟨z, ex, kvs, g, rfl, e7, hfa7, hsa7, hkd7, hnd7, hlab7, hmem7, hku7, hcls7, hcl7, hc7⟩
      rw [List.getElem?_map] at hi
      obtain ⟨v, hv, rfl⟩ : ∃ v, (cl fl[k])[i]? = some v ∧ iV v = x := by
        cases e : (cl fl[k])[i]? with
        | none => rw [e] at hi; cases hi
        | some v =>
          rw [e] at hi
          exact ⟨v, rfl, Option.some.inj hi⟩
      obtain ⟨hvn, hvu, huv⟩ := ok.in_ _ v hun (List.mem_of_getElem? hv)
      have R7 := R.mono e7
      obtain ⟨⟨dx7, wd7, cd7, ob7, _⟩, _⟩ := id R7
      have lfn : ∀ x ∈ fl ++ ex, x < n := fun x hx => by
        have h1 := ((hmem7 x).mp hx).1
        cases e : g x with
        | none => exact absurd e h1
        | some k => exact hlab7.lt x k e
      refine gw_name 8 (bw_one (sw_ifV (k := (!(g v).isSome) && decide (least ≤ W v fl[k] - F v fl[k])) (tv_bool (wv_and (tv_is (tv_niK (n := (v : Int)) hu (ev_name 8) (ev_name 4) (.inl hsa7)) (by rw [← isSome_gV, ← hkd7.val v]; rfl)) fun _ => wv_one_and (tv_ge (ev_meth hsp T.cRooms.cl hr (ev_name 0) ob7 rfl (av_cons (ev_name 8) (av_cons (ev_name 7) av_nil)) (fun H8 e8 => ⟨r, v, fl[k], rfl, bd, n, W, F, cl, R7.mono e8, hvn, hun, rfl⟩)) (ev_name 3)))) ?_ ?_))
      · intro hb H8 e8
        rw [Bool.and_eq_true] at hb
        have hvn' : g v = none := by
          cases e : g v with
          | none => rfl
          | some k =>
            have := hb.1
            rw [e] at this
            cases this
        have hroom : least ≤ W v fl[k] - F v fl[k] := of_decide_eq_true hb.2
        have hu' := hkd7.small hle.2
        have huk : valV kvs (pk fl[k]) = some (.int (ku : Int)) := by
          rw [hkd7.val]
          unfold gV
          rw [hku7]
          rfl
        refine bw_cons (sw_dput hu (EVgo (ev_add (ev_itemK (n := ((fl[k] : Nat) : Int)) hu (ev_name 4) (ev_name 7) (.inl (e8 _ _ hsa7)) huk) ev_int) fun H9 e9 => EVgo (ev_name 4) fun Ha ea => EVgo (ev_name 8) fun Hb eb => ⟨sa, _, rfl, DPut.k (k := pk v) (((e8.trans e9).trans (ea.trans eb)) _ _ hsa7) hu', ?_⟩))
        have e8b := (e8.trans e9).trans (ea.trans eb)
        have hfab := e8b _ _ hfa7
        have nsc : cs[fl[k]] ≠ sa := fun z => by
          rw [z, hsa7] at hc7
          cases hc7
        have nfc : fa ≠ cs[fl[k]] := fun z => by
          rw [← z, fF] at cu0
          cases cu0
        have kd' : Kd n (putK kvs (pk v) (.int ((ku : Int) + 1))) (gV fun a => if a = v then some (ku + 1) else g a) := (hkd7.put hvn (.int ((ku : Int) + 1))).ext fun i => by
          dsimp only [gV]
          by_cases e : i = v
          · rw [if_pos e, if_pos e]
            rfl
          · rw [if_neg e, if_neg e]
        have lab' : Lab0 n W F fs ts least fun a => if a = v then some (ku + 1) else g a := by
          refine ⟨fun a k' h => ?_, fun a => ?_, fun a k' h => ?_⟩
          · by_cases e : a = v
            · rw [e]
              exact hvn
            · rw [if_neg e] at h
              exact hlab7.lt a k' h
          · by_cases e : a = v
            · rw [if_pos e]
              refine ⟨fun z => (by cases z), fun z => ?_⟩
              have := (hlab7.zero a).mpr z
              rw [e, hvn'] at this
              cases this
            · rw [if_neg e]
              exact hlab7.zero a
          · have nv : ∀ u x, g u = some x → u ≠ v := fun u x h z => by
              rw [z, hvn'] at h
              cases h
            by_cases e : a = v
            · rw [if_pos e] at h
              have : ku = k' := by
                have := Option.some.inj h
                omega
              rw [← this]
              exact ⟨fl[k], hun, by rw [if_neg (nv _ _ hku7)]; exact hku7, huf, by rw [e]; exact hroom⟩
            · rw [if_neg e] at h
              obtain ⟨u, h1, h2, h3, h4⟩ := hlab7.down a k' h
              exact ⟨u, h1, by rw [if_neg (nv _ _ h2)]; exact h2, h3, h4⟩
        have grow : ∀ a, g a ≠ none → (if a = v then some (ku + 1) else g a) ≠ none := fun a h => by
          by_cases e : a = v
          · rw [if_pos e]
            exact fun z => by cases z
          · rw [if_neg e]
            exact h
        have ku' : (if fl[k] = v then some (ku + 1) else g fl[k]) = some ku := by
          rw [if_neg fun z => by rw [z, hvn'] at hku7; cases hku7]
          exact hku7
        have clv : ∀ x ∈ (cl fl[k]).take (i + 1), least ≤ W x fl[k] - F x fl[k] → (if x = v then some (ku + 1) else g x) ≠ none := fun x hx hr => by
          rw [take_snoc hv] at hx
          rcases List.mem_append.mp hx with h | h
          · exact grow x (hcl7 x h hr)
          · rw [List.mem_singleton.mp h, if_pos rfl]
            exact fun z => by cases z
        have k1 : Km [sa] H (upd Hb sa (.dK (putK kvs (pk v) (.int ((ku : Int) + 1))))) := (Km.of (e7.trans e8b)).upd (by simp)
        have x1 : Ex H (upd Hb sa (.dK (putK kvs (pk v) (.int ((ku : Int) + 1))))) := Km.nil ((Km.of (M := []) (Ex.refl H)).drop k1 (by simp [fS]))
        have s1 : (upd Hb sa (.dK (putK kvs (pk v) (.int ((ku : Int) + 1))))) sa = some (.dK (putK kvs (pk v) (.int ((ku : Int) + 1)))) := upd_same
        have f1 : (upd Hb sa (.dK (putK kvs (pk v) (.int ((ku : Int) + 1))))) fa = some (.lst ((fl ++ ex).map iV)) := by rw [upd_ne nfs]; exact hfab
        have c1' : (upd Hb sa (.dK (putK kvs (pk v) (.int ((ku : Int) + 1))))) cs[fl[k]] = some (.lst ((cl fl[k]).map iV)) := by rw [upd_ne nsc]; exact e8b _ _ hc7
        generalize upd Hb sa (.dK (putK kvs (pk v) (.int ((ku : Int) + 1)))) = Hc at x1 s1 f1 c1'
        refine bw_one (sw_ifV (tv_niS (x := iV v) (ev_name 8) (ev_name 1) (.inr (hfs.mono x1).sq) rfl (flat_iV _)) ?_ ?_)
        · rw [in_iV]
          intro hb2 Hd ed
          have hvf : v ∉ fs := by simpa using hb2
          refine bw_one (sw_expr (ew_append (l := fa) (ev_name 5) ⟨_, ed _ _ f1⟩ fun He ee => EVgo (ev_name 8) fun Hf ef => ⟨_, ef _ _ (ee _ _ (ed _ _ f1)), ?_, ?_⟩))
          · rw [List.length_map]
            have := nodup_lt n _ hnd7 lfn
            exact Evl.sz_lt (by omega)
          · have k2 : Km [fa] H (upd Hf fa (.lst ((fl ++ ex).map iV ++ [iV v]))) := (Km.of (x1.trans ((ed.trans ee).trans ef))).upd (by simp)
            refine ⟨_, ex ++ [v], _, _, rfl, Km.nil ((Km.of (M := []) (Ex.refl H)).drop k2 (by simp [fF])), ?_, ?_, kd', ?_, lab', fun x => ?_, ku', fun u hu x hx hr => grow x (hcls7 u hu x hx hr), clv, ?_⟩
            · rw [upd_same, ← List.append_assoc, List.map_append (l₂ := [v])]
              rfl
            · rw [upd_ne (Ne.symm nfs)]
              exact ef _ _ (ee _ _ (ed _ _ s1))
            · rw [← List.append_assoc]
              refine List.nodup_append.mpr ⟨hnd7, by simp, fun a ha b hb => ?_⟩
              rw [List.mem_singleton.mp hb]
              exact fun z => ((hmem7 a).mp ha).1 (by rw [z]; exact hvn')
            · rw [← List.append_assoc, List.mem_append, List.mem_singleton, hmem7]
              by_cases e : x = v
              · rw [if_pos e]
                exact ⟨fun _ => ⟨fun z => (by cases z), by rw [e]; exact hvf⟩, fun _ => .inr e⟩
              · rw [if_neg e]
                exact ⟨fun z => z.resolve_right e, .inl⟩
            · rw [upd_ne (Ne.symm nfc)]
              exact ef _ _ (ee _ _ (ed _ _ c1'))
        · rw [in_iV]
          intro hb2 Hd ed
          have hvf : v ∈ fs := by simpa using hb2
          refine bw_nil ⟨_, ex, _, _, rfl, x1.trans ed, ed _ _ f1, ed _ _ s1, kd', hnd7, lab', fun x => ?_, ku', fun u hu x hx hr => grow x (hcls7 u hu x hx hr), clv, ed _ _ c1'⟩
          rw [hmem7]
          by_cases e : x = v
          · rw [if_pos e, e]
            exact ⟨fun z => absurd hvf z.2, fun z => absurd hvf z.2⟩
          · rw [if_neg e]
      · intro hb H8 e8
        refine bw_nil ⟨_, ex, kvs, g, rfl, e7.trans e8, e8 _ _ hfa7, e8 _ _ hsa7, hkd7, hnd7, hlab7, hmem7, hku7, hcls7, fun x hx hr => ?_, e8 _ _ hc7⟩
        rw [take_snoc hv] at hx
        rcases List.mem_append.mp hx with h | h
        · exact hcl7 x h hr
        · have hx : x = v := List.mem_singleton.mp h
          rw [hx] at hr ⊢
          intro hc
          rw [hc, decide_eq_true hr] at hb
          cases hb
    · rintro σ' H'' ⟨z, ex, kvs, g, rfl, e7, hfa7, hsa7, hkd7, hnd7, hlab7, hmem7, hku7, hcls7, hcl7, hc7⟩
      refine bw_one (sw_augP 6 rfl (EVgo ev_int fun H8 e8 => ⟨rfl, n - (k + 1), by omega, k + 1, _, _, fl ++ ex, kvs, g, rfl, rfl, by rw [List.length_append]; omega, e7.trans e8, e8 _ _ hfa7, e8 _ _ hsa7, hkd7, hnd7, hlab7, hmem7, fun u hu v hv hr => ?_⟩))
      rw [List.take_append_of_le_length (by omega), take_snoc (List.getElem?_eq_getElem hlt')] at hu
      rcases List.mem_append.mp hu with h | h
      · exact hcls7 u h v hv hr
      · rw [List.mem_singleton.mp h] at hr
        rw [List.length_map, List.take_length] at hcl7
        exact hcl7 v (covB ok cov hun hv (by omega)) hr
  · have hk' : k = fl.length := by
      have : ¬ ((k : Int) < (((fl.map iV).length : Nat) : Int)) := fun z => hd (decide_eq_true z)
      rw [List.length_map] at this
      omega
    rw [hk', List.take_length] at hcls
    exact bw_one (sw_ret (EVgo (ev_name 4) fun H7 e7 => q sa kvs g H7 (e5.trans (e6.trans e7)) (e7 _ _ (e6 _ _ hsa)) hkd ⟨hlab, fun u v hg hf hv hr => hcls u ((hmem u).mpr ⟨hg, hf⟩) v hv hr⟩))
end
end Cut


namespace Cut
open PySem PySem.Spec PyProof.Rows L2 Evl
/-- room on all its steps -/
def Chn (W F : Mx) (least : Int) (ws : List Nat) : Prop := ∀ (k a b : Nat), ws[k]? = some a → ws[k + 1]? = some b → least ≤ W a b - F a b
theorem Chn.snoc {W F : Mx} {least : Int} {pre : List Nat} {u v : Nat} (h : Chn W F least (pre ++ [u])) (r : least ≤ W u v - F u v) : Chn W F least ((pre ++ [u]) ++ [v]) := fun k a b h1 h2 => by
  by_cases hk : k + 1 < (pre ++ [u]).length
  · rw [List.getElem?_append_left (by omega)] at h1
    rw [List.getElem?_append_left hk] at h2
    exact h k a b h1 h2
  · have h3 := (List.getElem?_eq_some_iff.mp h2).1
    rw [List.length_append, List.length_singleton] at h3
    have hk2 : k + 1 = (pre ++ [u]).length := by omega
    rw [hk2, List.getElem?_append_right (Nat.le_refl _), Nat.sub_self] at h2
    have e2 : v = b := Option.some.inj h2
    rw [List.length_append, List.length_singleton] at hk2
    have hk3 : k = pre.length := by omega
    rw [List.getElem?_append_left (by rw [List.length_append, List.length_singleton]; omega), hk3, List.getElem?_append_right (Nat.le_refl _), Nat.sub_self] at h1
    have e1 : u = a := Option.some.inj h1
    rw [← e1, ← e2]
    exact r
structure WayOk (n : Nat) (W F : Mx) (fs ts : List Nat) (least : Int) (ws : List Nat) : Prop where
  two : 2 ≤ ws.length
  nd : ws.Nodup
  lt : ∀ x ∈ ws, x < n
  hd : ∃ a r, ws = a :: r ∧ a ∈ fs
  last : ∃ p b, ws = p ++ [b] ∧ b ∈ ts
  rm : Chn W F least ws
/-- with so much room no way leads on -/
def NoWay (n : Nat) (W F : Mx) (fs ts : List Nat) (least : Int) : Prop := ∀ v, Rch n (fun a b => least ≤ W a b - F a b) (inP fs) v → inP ts v = false
section
variable {P : Program} {w : World} {K : PySem.W.Frag} {mg : Str → Option Value} {base : Heap} {CR CW CN CH : Addr}
def spWay (K : PySem.W.Frag) (CR : Addr) : Sp := fun vs H Q _ => ∃ (r pf pt : Addr) (least : Int), vs = [.ref r, .ref pf, .ref pt, .int least] ∧ ∃ bd n W F cl fs ts, RmAt CR H r bd n W F cl ∧ ClOk n cl ∧ CovR n W F cl ∧ Tp K H pf (fs.map iV) ∧ Tp K H pt (ts.map iV) ∧ EndsOk n fs ts ∧ 1 ≤ least ∧
  (∀ H', Ex H H' → NoWay n W F fs ts least → Q .non H') ∧ ∀ (t : Addr) (ws : List Nat) (H' : Hp), Ex H H' → H' t = some (.tup (ws.map iV)) → WayOk n W F fs ts least ws → Q (.ref t) H'
/-! way_with: slots 0 rooms, 1 froms, 2 tos, 3 least, 4 steps, 5 begins, 6 fewest, 7 way, 8 left, 9 other, 10 fits, 11 place -/
theorem sc_way_with : FnScope ["rooms", "froms", "tos", "least", "steps", "begins", "fewest", "way", "left", "other", "fits", "place"] ["rooms", "froms", "tos", "least"] (defScope s_way_with) := ⟨rfl, rfl, rfl, by decide +kernel, rfl, by decide +kernel, by decide +kernel⟩
theorem ok_way_with (T : Tops K mg CR CW CN CH) (hst : Has P w K mg base 2 "steps_to" ["rooms", "froms", "tos", "least"] (spSteps K CR)) (hsp : HasM P w K mg base CR 1 "spare" ["self", "i", "j"] (spSpare CR)) : Has P w K mg base 3 "way_with" ["rooms", "froms", "tos", "least"] (spWay K CR) := by
  refine has_of (k := 2) T.way_with sc_way_with (fun _ _ _ _ _ _ us hl => match us, hl with | [_, _, _, _], _ => rfl) (fun vs H Q E h => by
    obtain ⟨r, pf, pt, least, rfl, _⟩ := h
    rfl) ?_
  intro f cdv A outer s H0 H vs Q E E0 hr h
  obtain ⟨r, pf, pt, least, rfl, bd, n, W, F, cl, fs, ts, R, ok, cov, hfs, hts, en, hl1, q1, q2⟩ := h
  have nd := (sc_way_with).nd
  have hu := hu_of hr
  have hu64 : (CxD P w K mg base ["rooms", "froms", "tos", "least", "steps", "begins", "fewest", "way", "left", "other", "fits", "place"] "way_with" s_way_with f cdv A outer s H0 E0).A.units + 64 < cLine := hr.units
  have hle := R.le
  have fnd := pw_nd en.fnd
  obtain ⟨⟨dx, wd, cd, ob, _, _, ⟨cs, c1, c2, c3⟩⟩, _⟩ := id R
  refine bw_cons (sw_set 4 (ew_call hst hr (AVgo (av_cons (ev_name 0) (av_cons (ev_name 1) (av_cons (ev_name 2) (av_cons (ev_name 3) av_nil)))) fun H1 e1 => ⟨r, pf, pt, least, rfl, bd, n, W, F, cl, fs, ts, R.mono e1, ok, cov, hfs.mono e1, hts.mono e1, en, hl1, fun d kvs g H2 e2 hd hkd hlab => ?_⟩)))
  have e02 := e1.trans e2
  have hfn : fs.length ≤ 7 := Nat.le_trans (nodup_lt n fs fnd en.flt) hle.2
  let lab : Nat → Nat := fun v => (g v).getD 0
  have hval : ∀ {v k : Nat}, g v = some k → valV kvs (pk v) = some (.int (k : Int)) := fun {v k} h => by
    rw [hkd.val]
    unfold gV
    rw [h]
    rfl
  have hlabv : ∀ {v k : Nat}, g v = some k → lab v = k := fun {v k} h => by
    show (g v).getD 0 = k
    rw [h]
    rfl
  refine bw_cons (sw_setLcIf 5 (own := [("place", 11)]) (lc_of (iw_T (EVgo (ev_name 1) fun H3 e3 => ⟨pf, rfl, ⟨_, (hfs.mono (e02.trans e3)).sq⟩, ?_⟩))))
  refine lc_goX (l := fs) (pf := fun v => (g v).isSome) (n := (fs.map iV).length) (G := fun H => SqT K H pf (fs.map iV)) (Y := YAt (fs.map iV)) (Fx := fun i x _ => x = iV i) (R := fun a y _ => y = iV a) (sg := fun i x => [some (.ref r), some (.ref pf), some (.ref pt), some (.int least), some (.ref d), none, none, none, none, none, none, some x]) walk_tup (fun H4 e4 => (hfs.mono ((e02.trans e3).trans e4)).sq) (by rw [List.length_map]) (by rw [List.length_map]; omega) ?_ (fun _ _ _ _ h _ => h) ?_ (fun _ x => rfl) ?_ ?_ (fun _ _ _ _ h _ => h) ?_
  · rintro i b x H4 H5 hb e4 ⟨rfl, hx⟩
    rw [List.getElem?_map, hb] at hx
    exact ⟨Ex.refl _, (Option.some.inj hx).symm⟩
  · rintro b _ x H4 e4 rfl s0 H0 C clo fp
    exact gv_name 11
  · rintro b _ x H4 e4 rfl
    exact tv_b fun s0 H0 C clo fp => tv_is (tv_inK (n := (b : Int)) hu (ev_name 11) (ev_name 4) (.inl (e4 _ _ (e3 _ _ hd)))) (by rw [← isSome_gV, ← hkd.val b]; rfl)
  · rintro b _ _ x H4 e4 rfl s0 H0 C clo fp
    exact EX.ev (ev_name 11) fun _ _ => rfl
  · intro ba ys H4 hba e4 hys hall
    obtain rfl := allR_map hall
    generalize hbs : fs.filter (fun v => (g v).isSome) = bs at hall hys
    have mem : ∀ x, x ∈ bs ↔ x ∈ fs ∧ (g x).isSome = true := fun x => by rw [← hbs, List.mem_filter]
    have hbz : bs.length ≤ 7 := by
      rw [← hbs]
      exact Nat.le_trans (List.length_filter_le _ _) hfn
    have e04 := (e02.trans e3).trans e4
    have hd4 := e4 _ _ (e3 _ _ hd)
    refine bw_cons (sw_ifV (tv_eqNil hu64 (ev_name 5) (ds := dI (bs.map fun x : Nat => (x : Int))) (fun H1 e1 => .lst (.inl (.inl (e1 _ _ hys))) (dp_iV _)) (shL (okA_dI _) (Nat.le_trans (dep_dI _) (by decide)))) ?_ ?_)
    · intro hb H5 e5
      have hb0 : bs = [] := by
        cases bs with
        | nil => rfl
        | cons a r => cases hb
      refine bw_one (sw_ret (EVgo ev_non fun H6 e6 => q1 H6 (e04.trans (e5.trans e6)) fun v hv => ?_))
      have key : g v = none := by
        induction hv with
        | base hv h =>
          rename_i v
          cases e : g v with
          | none => rfl
          | some k =>
            have := (mem v).mpr ⟨inP_iff.mp h, by rw [e]; rfl⟩
            rw [hb0] at this
            cases this
        | step h hv rr ih =>
          rename_i u v
          refine Decidable.byContradiction fun hn => ?_
          have hvf : v ∉ fs := fun z => by
            have := (mem v).mpr ⟨z, Option.isSome_iff_ne_none.mpr hn⟩
            rw [hb0] at this
            cases this
          exact hlab.closed v u hn hvf h.lt rr ih
      cases e : inP ts v with
      | false => rfl
      | true =>
        rw [(hlab.zero v).mpr (inP_iff.mp e)] at key
        cases key
    · intro hb H5 e5
      refine bw_nil ?_
      have hb0 : bs ≠ [] := fun z => by
        rw [z] at hb
        cases hb
      have h5 := e5 _ _ hys
      have hd5 := e5 _ _ hd4
      have gs : ∀ {b}, b ∈ bs → g b = some (lab b) := fun {b} hb => by
        obtain ⟨k, hk⟩ := Option.isSome_iff_exists.mp ((mem b).mp hb).2
        rw [hk, hlabv hk]
      refine bw_cons (sw_set 6 (ew_B (cr_min rfl) T.b.b_min (aw_cons (ELgo (evl_comp (l := bs) (toV := iV) (g := fun a => .int (lab a : Int)) (p := ba) [("place", 11)] (ev_name 5) (.inl (.inl (.inl h5))) (by omega) (fun a => [some (.ref r), some (.ref pf), some (.ref pt), some (.int least), some (.ref d), some (.ref ba), none, none, none, none, none, some (iV a)]) (fun a _ s0 H0 C clo fp => gv_name 11) (fun a => rfl) (fun a ha s0 H0 C clo fp => ev_itemK (n := (a : Int)) hu (ev_name 4) (ev_name 11) (.inl hd5) (hval (gs ha)))) fun la H6 nla e6 hla => aw_nil ⟨la, bs.map (fun a => (lab a : Int)), rfl, .inl (.inl ?_), ?_, fun m hm hmin => ?_⟩))))
      · rw [hla, List.map_map]
        rfl
      · rw [List.length_map]
        exact List.length_pos_iff.mpr hb0
      · obtain ⟨b0, hb1, rfl⟩ := List.mem_map.mp hm
        have h6 := e6 _ _ h5
        have hd6 := e6 _ _ hd5
        refine bw_cons (sw_set 7 (ew_lst (aw_cons (ew_B (cr_min rfl) T.b.b_min (aw_cons (ELgo (evl_compIf (l := bs) (toV := iV) (g := iV) (pf := fun a => decide (V.int (lab a : Int) = V.int (lab b0 : Int))) (p := ba) [("place", 11)] (ev_name 5) (.inl (.inl (.inl h6))) (by omega) (fun a => [some (.ref r), some (.ref pf), some (.ref pt), some (.int least), some (.ref d), some (.ref ba), some (.int (lab b0 : Int)), none, none, none, none, some (iV a)]) (fun a _ s0 H0 C clo fp => gv_name 11) (fun a => rfl) (fun a ha s0 H0 C clo fp => tv_eq (ev_itemK (n := (a : Int)) hu (ev_name 4) (ev_name 11) (.inl hd6) (hval (gs ha))) (ev_name 6)) (fun a ha _ s0 H0 C clo fp => ev_name 11)) fun la2 H7 nla2 e7 hla2 => aw_nil ⟨la2, (bs.filter fun a => decide (V.int (lab a : Int) = V.int (lab b0 : Int))).map (fun x : Nat => (x : Int)), rfl, .inl (.inl ?_), ?_, fun m2 hm2 hmin2 => aw_nil ⟨by show 1 ≤ sizeLine; decide, fun wa nwa => ?_⟩⟩))))))
        · rw [hla2, iV_map]
        · rw [List.length_map]
          refine List.length_pos_iff.mpr fun z => ?_
          have : b0 ∈ bs.filter fun a => decide (V.int (lab a : Int) = V.int (lab b0 : Int)) := List.mem_filter.mpr ⟨hb1, decide_eq_true rfl⟩
          rw [z] at this
          cases this
        · obtain ⟨w0, hw1, rfl⟩ := List.mem_map.mp hm2
          have hw0 := (List.mem_filter.mp hw1).1
          have hwf := ((mem w0).mp hw0).1
          have e08 : Ex H (upd H7 wa (.lst [.int (w0 : Int)])) := ((e04.trans e5).trans (e6.trans e7)).trans (Ex.new nwa)
          have fW : H wa = none := Evl.fresh_back ((e04.trans e5).trans (e6.trans e7)) nwa
          have hd8 : (upd H7 wa (.lst [.int (w0 : Int)])) d = some (.dK kvs) := Ex.new nwa _ _ (e7 _ _ hd6)
          have nwd : wa ≠ d := fun z => by
            rw [z, e7 _ _ hd6] at nwa
            cases nwa
          have hw8 : (upd H7 wa (.lst [.int (w0 : Int)])) wa = some (.lst (([] ++ [w0]).map iV)) := upd_same
          generalize upd H7 wa (.lst [.int (w0 : Int)]) = H8 at e08 hd8 hw8
          refine bw_cons (sw_whileM PassesOwn.never (fun m σ' H' => ∃ (pre : List Nat) (u : Nat) (zl zo zf : Option V), σ' = [some (.ref r), some (.ref pf), some (.ref pt), some (.int least), some (.ref d), some (.ref ba), some (.int (lab b0 : Int)), some (.ref wa), zl, zo, zf, none] ∧ Ex H H' ∧ H' wa = some (.lst ((pre ++ [u]).map iV)) ∧ H' d = some (.dK kvs) ∧ g u = some m ∧ (pre ++ [u]).Nodup ∧ (∀ x ∈ pre ++ [u], ∃ k, g x = some k ∧ m ≤ k) ∧ (∃ a rr, pre ++ [u] = a :: rr ∧ a ∈ fs) ∧ Chn W F least (pre ++ [u])) (lab w0) ⟨[], w0, _, _, _, rfl, e08, hw8, hd8, gs hw0, by simp, fun x hx => ?_, ⟨w0, [], rfl, hwf⟩, fun k a b h1 h2 => ?_⟩ ?_)
          · rw [List.mem_singleton.mp hx]
            exact ⟨_, gs hw0, Nat.le_refl _⟩
          · simp at h2
          rintro m σ' H' ⟨pre, u, zl, zo, zf, rfl, e9, hwa, hdd, hgu, hnd, hlb, hhd, hch⟩
          have hun := hlab.lt u m hgu
          have lastE : ∀ {H2 : Hp} {σ2 : L2.St} {pos pos2 pos3 pos4 : Pos} {j : Nat}, Ex H' H2 → σ2[7]? = some (some (.ref wa)) → EV (CxD P w K mg base ["rooms", "froms", "tos", "least", "steps", "begins", "fewest", "way", "left", "other", "fits", "place"] "way_with" s_way_with f cdv A outer s H0 E0) (.Subscript (.Name "way" pos) (.UnaryOp .USub (.Constant (.int 1) j pos2) pos3) pos4) σ2 H2 (iV u) := fun e hs => ev_ixL (ev_name 7 rfl (by first | exact Or.inl rfl | exact Or.inr (Or.inl rfl) | exact Or.inr (Or.inr rfl)) hs) (ev_neg ev_int) (.inl (.inl (e _ _ hwa))) (by rw [List.map_append]; exact atI_last _ _)
          refine TVgo (tv_gt (ev_itemK (n := (u : Int)) hu (ev_name 4) (lastE (Ex.refl _) rfl) (.inl hdd) (hval hgu)) ev_int) fun Ha ea => ?_
          refine ite2 (fun hdc => ?_) (fun hdc => ?_)
          · have hm0 : 0 < m := by
              have := of_decide_eq_true hdc
              omega
            obtain ⟨m', rfl⟩ : ∃ m', m = m' + 1 := ⟨m - 1, by omega⟩
            obtain ⟨u', hu'n, hgu', hu'f, hu'r⟩ := hlab.down u m' hgu
            refine bw_cons (sw_set 8 (EVgo (ev_sub (ev_itemK (n := (u : Int)) hu (ev_name 4) (lastE ea rfl) (.inl (ea _ _ hdd)) (hval hgu)) ev_int) fun Hb eb => ?_))
            have eab := ea.trans eb
            have huc : u < cs.length := by omega
            have cu0 := c3 u _ (List.getElem?_eq_getElem huc)
            have cu := eab _ _ (e9 _ _ cu0)
            have nwc : wa ≠ cs[u] := fun z => by
              rw [← z, fW] at cu0
              cases cu0
            refine bw_one (sw_forL PassesOwn.never (p := cs[u]) (xs := (cl u).map iV) (ev_ixLn u (ev_fld (ev_name 0) (rm_fl T (eab _ _ (e9 _ _ ob))).2.2.2) (lastE eab rfl) (.inl (.inl (eab _ _ (e9 _ _ c1)))) (by rw [List.getElem?_map, List.getElem?_eq_getElem huc]; rfl) rfl) (.inl (.inl cu)) (fun i σ' H'' => ∃ (zo zf : Option V), σ' = [some (.ref r), some (.ref pf), some (.ref pt), some (.int least), some (.ref d), some (.ref ba), some (.int (lab b0 : Int)), some (.ref wa), some (.int (((m' + 1 : Nat) : Int) - 1)), zo, zf, none] ∧ Ex H' H'' ∧ u' ∉ (cl u).take i) ?_ ?_ ?_ ?_)
            · intro Hc ec
              exact ⟨_, _, rfl, eab.trans ec, by simp⟩
            · rintro i σ' H'' _ ⟨_, _, _, e, _⟩
              exact .inl (.inl (e _ _ (e9 _ _ cu0)))
            · rintro i x σ' H'' hi ⟨zo, zf, rfl, ec, hni⟩
              rw [List.getElem?_map] at hi
              obtain ⟨v, hv, rfl⟩ : ∃ v, (cl u)[i]? = some v ∧ iV v = x := by
                cases e : (cl u)[i]? with
                | none => rw [e] at hi; cases hi
                | some v =>
                  rw [e] at hi
                  exact ⟨v, rfl, Option.some.inj hi⟩
              obtain ⟨hvn, hvu, huv⟩ := ok.in_ _ v hun (List.mem_of_getElem? hv)
              have hdc := ec _ _ hdd
              refine gw_name 9 (bw_cons (sw_set 10 (EVgo (v := .bl ((g v).isSome && (decide (V.int (lab v : Int) = V.int (((m' + 1 : Nat) : Int) - 1)) && !decide (v ∈ fs)))) (ev_and (ev_is (ev_inK (n := (v : Int)) hu (ev_name 9) (ev_name 4) (.inl hdc)) (by rw [← isSome_gV, ← hkd.val v]; rfl)) fun hs => ev_and (ev_eq (ev_itemK (n := (v : Int)) hu (ev_name 4) (ev_name 9) (.inl hdc) (by
                obtain ⟨k, hk⟩ := Option.isSome_iff_exists.mp hs
                rw [show (Sum.inl (v : Int) : Key) = pk v from rfl, hval hk, hlabv hk])) (ev_name 8)) fun _ => ev_one (ev_is (ev_niS (x := iV v) (ev_name 9) (ev_name 1) (.inr (hfs.mono (e9.trans ec)).sq) rfl (flat_iV _)) (by rw [in_iV]))) fun Hd ed => ?_)))
              have R9 := (R.mono e9).mono (ec.trans ed)
              obtain ⟨⟨dx9, wd9, cd9, ob9, _⟩, _⟩ := id R9
              have ecd := ec.trans ed
              refine bw_one (sw_ifV (k := ((g v).isSome && (decide (V.int (lab v : Int) = V.int (((m' + 1 : Nat) : Int) - 1)) && !decide (v ∈ fs))) && decide (least ≤ W u v - F u v)) (tv_bool (wv_and (tv_val (ev_name 10)) fun _ => wv_one_and (tv_ge (ev_meth hsp T.cRooms.cl hr (ev_name 0) ob9 rfl (av_cons (lastE ecd rfl) (av_cons (ev_name 9) av_nil)) (fun He ee => ⟨r, u, v, rfl, bd, n, W, F, cl, R9.mono ee, hun, hvn, rfl⟩)) (ev_name 3)))) ?_ ?_)
              · intro hb He ee
                simp only [Bool.and_eq_true] at hb
                obtain ⟨⟨hs, hk, hf⟩, hrm⟩ := hb
                obtain ⟨k, hk'⟩ := Option.isSome_iff_exists.mp hs
                have hkm : k = m' := by
                  have := V.int.inj (of_decide_eq_true hk)
                  rw [hlabv hk'] at this
                  omega
                rw [hkm] at hk'
                have hroom : least ≤ W u v - F u v := of_decide_eq_true hrm
                have ece := ecd.trans ee
                refine bw_cons (sw_expr (ew_append (l := wa) (ev_name 7) ⟨_, ece _ _ hwa⟩ fun Hf ef => EVgo (ev_name 9) fun Hg eg => ⟨_, eg _ _ (ef _ _ (ece _ _ hwa)), ?_, bw_one (sw_break ?_)⟩))
                · rw [List.length_map]
                  have := nodup_lt n _ hnd fun x hx => by
                    obtain ⟨k, hk, _⟩ := hlb x hx
                    exact hlab.lt x k hk
                  exact Evl.sz_lt (by omega)
                · have k2 : Km [wa] H (upd Hg wa (.lst ((pre ++ [u]).map iV ++ [iV v]))) := (Km.of (e9.trans (ece.trans (ef.trans eg)))).upd (by simp)
                  refine ⟨m', by omega, pre ++ [u], v, _, _, _, rfl, Km.nil ((Km.of (M := []) (Ex.refl H)).drop k2 (by simp [fW])), ?_, ?_, hk', ?_, fun x hx => ?_, ?_, hch.snoc hroom⟩
                  · rw [upd_same, List.map_append (l₂ := [v])]
                    rfl
                  · rw [upd_ne (Ne.symm nwd)]
                    exact eg _ _ (ef _ _ (ece _ _ hdd))
                  · refine List.nodup_append.mpr ⟨hnd, by simp, fun a ha b hb => ?_⟩
                    rw [List.mem_singleton.mp hb]
                    intro z
                    obtain ⟨k, hk, hle⟩ := hlb a ha
                    rw [z, hk'] at hk
                    have := Option.some.inj hk
                    omega
                  · rcases List.mem_append.mp hx with h | h
                    · obtain ⟨k, hk, hle⟩ := hlb x h
                      exact ⟨k, hk, by omega⟩
                    · rw [List.mem_singleton.mp h]
                      exact ⟨m', hk', Nat.le_refl _⟩
                  · obtain ⟨a, rr, h1, h2⟩ := hhd
                    exact ⟨a, rr ++ [v], by rw [h1]; rfl, h2⟩
              · intro hb He ee
                refine bw_nil ⟨_, _, rfl, ecd.trans ee, ?_⟩
                rw [take_snoc hv]
                intro hm
                rcases List.mem_append.mp hm with h | h
                · exact hni h
                · have hx : u' = v := List.mem_singleton.mp h
                  rw [← hx] at hb
                  rw [hgu', hlabv hgu', decide_eq_true hu'r] at hb
                  rw [decide_eq_true (show V.int (m' : Int) = V.int (((m' + 1 : Nat) : Int) - 1) by congr 1; omega), decide_eq_false hu'f] at hb
                  cases hb
            · rintro σ' H'' ⟨zo, zf, rfl, ec, hni⟩
              rw [List.length_map, List.take_length] at hni
              exact absurd (cov u u' hun hu'n (by omega)) hni
          · have hm0 : m = 0 := by
              have : ¬ ((0 : Int) < (m : Int)) := fun z => hdc (decide_eq_true z)
              omega
            subst hm0
            have huts := (hlab.zero u).mp hgu
            refine bw_one (sw_ret (ew_Ty call_tuple_of T.b.b_tuple (aw_cons (EVgo (ev_name 7) fun Hb eb => aw_nil ⟨wa, _, rfl, .inl ⟨.inl (.inl (eb _ _ (ea _ _ hwa))), fun t nt => q2 t (pre ++ [u]) _ (e9.trans ((ea.trans eb).trans (Ex.new nt))) upd_same ⟨?_, hnd, fun x hx => ?_, hhd, ⟨pre, u, rfl, huts⟩, hch⟩⟩⟩))))
            · obtain ⟨a, rr, h1, h2⟩ := hhd
              cases pre with
              | nil =>
                cases h1
                exact absurd huts (en.dis _ h2)
              | cons b pre => simp
            · obtain ⟨k, hk, _⟩ := hlb x hx
              exact hlab.lt x k hk
end
end Cut


namespace Cut
open PySem PySem.Spec PyProof.Rows L2 Evl
/-! ### more along a way: what it does -/
def lastOf : Nat → List Nat → Nat
  | a, [] => a
  | _, b :: r => lastOf b r
theorem lastOf_snoc : ∀ (a : Nat) (p : List Nat) (b : Nat), lastOf a (p ++ [b]) = b
  | _, [], _ => rfl
  | _, c :: p, b => lastOf_snoc c p b
theorem crr_anti : ∀ {ws : List Nat} {F : Mx} {x : Int}, Anti F → Anti (crr F ws x)
  | [], _, _, h => h
  | [_], _, _, h => h
  | a :: b :: r, F, x, h => crr_anti (ws := b :: r) (pt_anti h a b x)
theorem crr_ot {n : Nat} : ∀ {r : List Nat} {a : Nat} {F : Mx} {x : Int}, (∀ v ∈ a :: r, v < n) → ∀ v, ot n (crr F (a :: r) x) v = ot n F v + (if v = a then x else 0) - (if v = lastOf a r then x else 0)
  | [], a, F, x, _, v => by
    show ot n F v = ot n F v + (if v = a then x else 0) - (if v = a then x else 0)
    omega
  | b :: r, a, F, x, h, v => by
    show ot n (crr (pt F a b x) (b :: r) x) v = ot n F v + (if v = a then x else 0) - (if v = lastOf b r then x else 0)
    rw [crr_ot (r := r) (fun v hv => h v (List.mem_cons_of_mem _ hv)), pt_ot (h a List.mem_cons_self) (h b (List.mem_cons_of_mem _ List.mem_cons_self))]
    omega
theorem crr_ne : ∀ {ws : List Nat} {F : Mx} {x : Int} {i j : Nat}, crr F ws x i j ≠ F i j → ∃ k : Nat, (ws[k]? = some i ∧ ws[k + 1]? = some j) ∨ (ws[k]? = some j ∧ ws[k + 1]? = some i)
  | [], _, _, _, _, h => absurd rfl h
  | [_], _, _, _, _, h => absurd rfl h
  | a :: b :: r, F, x, i, j, h => by
    by_cases c1 : i = a ∧ j = b
    · exact ⟨0, .inl ⟨by rw [c1.1]; rfl, by rw [c1.2]; rfl⟩⟩
    · by_cases c2 : i = b ∧ j = a
      · exact ⟨0, .inr ⟨by rw [c2.2]; rfl, by rw [c2.1]; rfl⟩⟩
      · have e : pt F a b x i j = F i j := by
          unfold pt
          rw [if_neg c1, if_neg c2]
          omega
        have h' : crr (pt F a b x) (b :: r) x i j ≠ pt F a b x i j := by
          rw [e]
          exact h
        obtain ⟨k, hk⟩ := crr_ne h'
        exact ⟨k + 1, hk⟩
theorem crr_cap {W : Mx} {m : Int} (hm : 0 ≤ m) : ∀ {ws : List Nat} {F : Mx}, ws.Nodup → Chn W F m ws → ∀ i j, F i j ≤ W i j → crr F ws m i j ≤ W i j
  | [], _, _, _, _, _, h => h
  | [_], _, _, _, _, _, h => h
  | a :: b :: r, F, hnd, hc, i, j, h => by
    have h0 := hc 0 a b rfl rfl
    rw [List.nodup_cons] at hnd
    have hab : a ≠ b := fun z => hnd.1 (by rw [z]; exact List.mem_cons_self)
    refine crr_cap hm (ws := b :: r) hnd.2 (fun k c d h1 h2 => ?_) i j ?_
    · have h3 := hc (k + 1) c d h1 h2
      have hca : c ≠ a := fun z => hnd.1 (z ▸ List.mem_of_getElem? h1)
      have hda : d ≠ a := fun z => hnd.1 (z ▸ List.mem_of_getElem? h2)
      unfold pt
      rw [if_neg fun z => hca z.1, if_neg fun z => hda z.2]
      omega
    · unfold pt
      by_cases c1 : i = a ∧ j = b
      · rw [if_pos c1, if_neg fun z => hab (c1.1.symm.trans z.1), c1.1, c1.2]
        omega
      · rw [if_neg c1]
        by_cases c2 : i = b ∧ j = a
        · rw [if_pos c2]
          omega
        · rw [if_neg c2]
          omega
theorem WayOk.mem {n : Nat} {W F : Mx} {fs ts : List Nat} {least : Int} {ws : List Nat} (h : WayOk n W F fs ts least ws) {k a : Nat} (e : ws[k]? = some a) : a < n := h.lt a (List.mem_of_getElem? e)
theorem crr_flw {n : Nat} {W F : Mx} {fs ts : List Nat} {least m : Int} {ws : List Nat} (f : Flw n W (inP fs) (inP ts) F) (en : EndsOk n fs ts) (wy : WayOk n W F fs ts least ws) (hm : 0 ≤ m) (hc : Chn W F m ws) :
    Flw n W (inP fs) (inP ts) (crr F ws m) ∧ wor n (inP fs) (crr F ws m) = wor n (inP fs) F + m := by
  obtain ⟨a, r, rfl, ha⟩ := wy.hd
  obtain ⟨p, b, hp, hb⟩ := wy.last
  have hl : lastOf a r = b := by
    cases p with
    | nil =>
      have h2 := wy.two
      rw [hp] at h2
      simp at h2
    | cons c p =>
      rw [List.cons_append] at hp
      injection hp with h1 h2
      rw [h2]
      exact lastOf_snoc a p b
  have hot := fun v => crr_ot (F := F) (x := m) wy.lt v
  rw [hl] at hot
  have hfa : inP fs a = true := inP_iff.mpr ha
  have hfb : inP fs b = false := by
    cases e : inP fs b with
    | false => rfl
    | true => exact absurd hb (en.dis b (inP_iff.mp e))
  have htb : inP ts b = true := inP_iff.mpr hb
  refine ⟨⟨crr_anti f.anti, fun i j hi hj => crr_cap hm wy.nd hc i j (f.cap i j hi hj), fun v hv h1 h2 => ?_⟩, ?_⟩
  · rw [hot, f.bal v hv h1 h2, if_neg (fun z : v = a => by rw [z, hfa] at h1; cases h1), if_neg (fun z : v = b => by rw [z, htb] at h2; cases h2)]
    rfl
  · have e : ∀ v, (if inP fs v = true then ot n (crr F (a :: r) m) v else 0) = (if inP fs v = true then ot n F v else 0) + if v = a then m else 0 := fun v => by
      rw [hot]
      by_cases h1 : inP fs v = true
      · rw [if_pos h1, if_pos h1, if_neg (fun z : v = b => by rw [z, hfb] at h1; cases h1)]
        omega
      · rw [if_neg h1, if_neg h1, if_neg (fun z : v = a => h1 (by rw [z]; exact hfa))]
        rfl
    unfold wor onS
    rw [sm_congr fun v _ => e v, sm_add, sm_one, if_pos (wy.lt a List.mem_cons_self)]
theorem wor_lid {n : Nat} {W F : Mx} {fs ts : List Nat} (f : Flw n W (inP fs) (inP ts) F) (en : EndsOk n fs ts) : wor n (inP fs) F ≤ acr n (inP fs) W :=
  wor_le f ⟨fun _ _ h => h, fun v _ h => by
    cases e : inP fs v with
    | false => rfl
    | true => exact absurd (inP_iff.mp h) (en.dis v (inP_iff.mp e))⟩
section
variable {P : Program} {w : World} {K : PySem.W.Frag} {mg : Str → Option Value} {base : Heap} {CR CW CN CH : Addr}
def spFilled (K : PySem.W.Frag) (CR : Addr) : Sp := fun vs H Q _ => ∃ (r pf pt : Addr) (least : Int), vs = [.ref r, .ref pf, .ref pt, .int least] ∧ ∃ bd n W F cl fs ts, RmAt CR H r bd n W F cl ∧ ClOk n cl ∧ CovR n W F cl ∧ Tp K H pf (fs.map iV) ∧ Tp K H pt (ts.map iV) ∧ EndsOk n fs ts ∧ 1 ≤ least ∧ Flw n W (inP fs) (inP ts) F ∧
  ∀ (k : Int) (G : Mx) (H' : Hp), RmAt CR H' r bd n W G cl → CovR n W G cl → Flw n W (inP fs) (inP ts) G → NoWay n W G fs ts least → Km [bd] H H' → Q (.int k) H'
/-! filled: slots 0 rooms, 1 froms, 2 tos, 3 least, 4 ways, 5 way -/
theorem sc_filled : FnScope ["rooms", "froms", "tos", "least", "ways", "way"] ["rooms", "froms", "tos", "least"] (defScope s_filled) := ⟨rfl, rfl, rfl, by decide +kernel, rfl, by decide +kernel, by decide +kernel⟩
theorem ok_filled (T : Tops K mg CR CW CN CH) (hw : Has P w K mg base 3 "way_with" ["rooms", "froms", "tos", "least"] (spWay K CR)) (hc : HasM P w K mg base CR 2 "carry" ["self", "way", "number"] (spCarry K CR)) (hlr : HasM P w K mg base CR 2 "least_room" ["self", "way"] (spLeastRoom K CR)) : Has P w K mg base 4 "filled" ["rooms", "froms", "tos", "least"] (spFilled K CR) := by
  refine has_of (k := 3) T.filled sc_filled (fun _ _ _ _ _ _ us hl => match us, hl with | [_, _, _, _], _ => rfl) (fun vs H Q E h => by
    obtain ⟨r, pf, pt, least, rfl, _⟩ := h
    rfl) ?_
  intro f cdv A outer s H0 H vs Q E E0 hr h
  obtain ⟨r, pf, pt, least, rfl, bd, n, W, F, cl, fs, ts, R, ok, cov, hfs, hts, en, hl1, fl, q⟩ := h
  have nd := (sc_filled).nd
  obtain ⟨kb, _, hb, _⟩ := id R.br
  have kt : ∀ {H' : Hp}, Km [bd] H H' → Kt H H' := fun k => k.kt fun m hm ys z => by
    rw [List.mem_singleton.mp hm, hb] at z
    cases z
  let St : V → Mx → Hp → Prop := fun wv G H' => RmAt CR H' r bd n W G cl ∧ CovR n W G cl ∧ Flw n W (inP fs) (inP ts) G ∧ Km [bd] H H' ∧ ((wv = .non ∧ NoWay n W G fs ts least) ∨ ∃ t ws, wv = .ref t ∧ H' t = some (.tup (ws.map iV)) ∧ WayOk n W G fs ts least ws)
  have call : ∀ {σ : L2.St} {H1 : Hp} {G : Mx} {Q' : VK} {p1 p2 p3 p4 p5 p6 : Pos}, σ[0]? = some (some (.ref r)) → σ[1]? = some (some (.ref pf)) → σ[2]? = some (some (.ref pt)) → σ[3]? = some (some (.int least)) → RmAt CR H1 r bd n W G cl → CovR n W G cl → Flw n W (inP fs) (inP ts) G → Km [bd] H H1 → (∀ wv H2, St wv G H2 → Q' wv H2) →
      EW (CxD P w K mg base ["rooms", "froms", "tos", "least", "ways", "way"] "filled" s_filled f cdv A outer s H0 E0) (.Call (.Name "way_with" p1) [.Name "rooms" p2, .Name "froms" p3, .Name "tos" p4, .Name "least" p5] [] p6) σ H1 Q' := by
    intro σ H1 G Q' p1 p2 p3 p4 p5 p6 s0 s1 s2 s3 R1 c1 f1 k1 q'
    refine ew_call hw hr (AVgo (av_cons (ev_name 0 rfl (by exact Or.inl rfl) s0) (av_cons (ev_name 1 rfl (by exact Or.inl rfl) s1) (av_cons (ev_name 2 rfl (by exact Or.inl rfl) s2) (av_cons (ev_name 3 rfl (by exact Or.inl rfl) s3) av_nil)))) fun H2 e2 => ?_)
    exact ⟨r, pf, pt, least, rfl, bd, n, W, G, cl, fs, ts, R1.mono e2, ok, c1, (hfs.kt (kt k1)).mono e2, (hts.kt (kt k1)).mono e2, en, hl1, fun H3 e3 hno => q' _ _ ⟨R1.mono (e2.trans e3), c1, f1, k1.trans (Km.of (e2.trans e3)), .inl ⟨rfl, hno⟩⟩, fun t ws H3 e3 ht hw => q' _ _ ⟨R1.mono (e2.trans e3), c1, f1, k1.trans (Km.of (e2.trans e3)), .inr ⟨t, ws, rfl, ht, hw⟩⟩⟩
  refine bw_cons (sw_set 4 (EVgo ev_int fun H1 e1 => ?_))
  refine bw_cons (sw_set 5 (call rfl rfl rfl rfl (R.mono e1) cov fl (Km.of e1) fun wv H2 st => ?_))
  refine bw_cons (sw_whileM PassesOwn.never (fun m σ' H' => ∃ (k : Int) (wv : V) (G : Mx), σ' = [some (.ref r), some (.ref pf), some (.ref pt), some (.int least), some (.int k), some wv] ∧ m = (acr n (inP fs) W - wor n (inP fs) G).toNat ∧ St wv G H') _ ⟨_, wv, F, rfl, rfl, st⟩ ?_)
  rintro m σ' H' ⟨k, wv, G, rfl, rfl, R1, c1, f1, k1, hcase⟩
  refine TVgo (tv_notN (ev_name 5)) fun H3 e3 => ?_
  refine ite2 (fun hd => ?_) (fun hd => ?_)
  · rcases hcase with ⟨rfl, _⟩ | ⟨t, ws, rfl, ht, hwy⟩
    · cases hd
    · have hzn := nodup_lt n ws hwy.nd hwy.lt
      have hz : ws.length ≤ 1000 := by
        have := R.le.2
        omega
      obtain ⟨⟨dx, wd, cd, ob, _⟩, _⟩ := R1.mono e3
      refine bw_cons (sw_expr (ew_meth hc T.cRooms.cl hr (EVgo (ev_name 0) fun H4 e4 => ⟨r, dx, _, rfl, e4 _ _ ob, rfl, aw_cons (EVgo (ev_name 5) fun H5 e5 => aw_cons (ew_meth hlr T.cRooms.cl hr (EVgo (ev_name 0) fun H6 e6 => ⟨r, dx, _, rfl, e6 _ _ (e5 _ _ (e4 _ _ ob)), rfl, AVgo (av_cons (ev_name 5) av_nil) fun H7 e7 => ?_⟩)))⟩)))
      have e37 := (e3.trans e4).trans (e5.trans (e6.trans e7))
      have hlt := hwy.lt
      refine ⟨r, t, rfl, bd, n, W, G, cl, ws, R1.mono e37, .inl (e37 _ _ ht), ⟨hwy.two, hz⟩, hlt, fun x H8 e8 hall hex => aw_nil ⟨r, t, x, rfl, bd, n, W, G, cl, ws, R1.mono (e37.trans e8), .inl (e8 _ _ (e37 _ _ ht)), hz, hlt, hwy.nd, fun H9 R9 k9 => ?_⟩⟩
      have hch : Chn W G x ws := fun k a b h1 h2 => by
        obtain ⟨l1, g1⟩ := List.getElem?_eq_some_iff.mp h1
        obtain ⟨l2, g2⟩ := List.getElem?_eq_some_iff.mp h2
        rw [← g1, ← g2]
        exact hall k l2
      have hx : 1 ≤ x := by
        obtain ⟨k, hk, e⟩ := hex
        have := hwy.rm k ws[k] ws[k + 1] (List.getElem?_eq_getElem _) (List.getElem?_eq_getElem _)
        omega
      obtain ⟨f9, w9⟩ := crr_flw f1 en hwy (by omega) hch
      have c9 : CovR n W (crr G ws x) cl := fun a b ha hb h => by
        by_cases e : crr G ws x a b = G a b
        · rw [e] at h
          exact c1 a b ha hb h
        · obtain ⟨k, ⟨h1, h2⟩ | ⟨h1, h2⟩⟩ := crr_ne e
          · have := hwy.rm k a b h1 h2
            exact c1 a b ha hb (by omega)
          · have := hwy.rm k b a h1 h2
            exact covB ok c1 ha hb (by omega)
      have k9' : Km [bd] H H9 := (k1.trans (Km.of (e37.trans e8))).trans k9
      refine bw_cons (sw_augP 4 rfl (EVgo ev_int fun Ha ea => ⟨rfl, ?_⟩))
      refine bw_one (sw_set 5 (call rfl rfl rfl rfl (R9.mono ea) c9 f9 (k9'.trans (Km.of ea)) fun wv Hb st => ⟨_, ?_, _, wv, _, rfl, rfl, st⟩))
      have l1 := wor_lid f1 en
      have l2 := wor_lid f9 en
      rw [w9] at l2 ⊢
      omega
  · rcases hcase with ⟨rfl, hno⟩ | ⟨t, ws, rfl, ht, hwy⟩
    · exact bw_one (sw_ret (EVgo (ev_name 4) fun H4 e4 => q k G H4 (R1.mono (e3.trans e4)) c1 f1 hno (k1.trans (Km.of (e3.trans e4)))))
    · exact absurd rfl hd
end
end Cut


namespace Cut
open PySem PySem.Spec PyProof.Rows L2 Evl
section
variable {P : Program} {w : World} {K : PySem.W.Frag} {mg : Str → Option Value} {base : Heap} {CR CW CN CH : Addr}
def spRising (K : PySem.W.Frag) : Sp := spV fun vs H v => ∃ x p, vs = [x, .ref p] ∧ ∃ (n : Nat) (ps : List Nat), x = .int (n : Int) ∧ Tp K H p (ps.map iV) ∧ ps.Pairwise (· < ·) ∧ (∀ y ∈ ps, y < n) ∧ v = .bl true
/-! are_rising: slots 0 many, 1 thing, 2 least, 3 place -/
theorem sc_are_rising : FnScope ["many", "thing", "least", "place"] ["many", "thing"] (defScope s_are_rising) := ⟨rfl, rfl, rfl, by decide +kernel, rfl, by decide +kernel, by decide +kernel⟩
theorem ok_are_rising (T : Tops K mg CR CW CN CH) (hrow : Has P w K mg base 1 "is_row" ["thing"] (spRow K)) (hwh : Has P w K mg base 1 "is_whole" ["thing", "least", "most"] spWhole) : Has P w K mg base 2 "are_rising" ["many", "thing"] (spRising K) := by
  refine has_of (k := 1) T.are_rising sc_are_rising (fun _ _ _ _ _ _ us hl => match us, hl with | [_, _], _ => rfl) (fun vs H Q E h => by
    obtain ⟨_, ⟨x, p, rfl, _⟩, _⟩ := h
    rfl) ?_
  intro f cdv A outer s H0 H vs Q E E0 hr h
  obtain ⟨v, ⟨x, p, rfl, n, ps, rfl, hps, hup, hlt, rfl⟩, q⟩ := h
  have nd := (sc_are_rising).nd
  refine bw_cons (sw_ifF (tv_not (tv_val (ev_call hrow hr (av_cons (ev_name 1) av_nil) (fun H1 e1 => ⟨_, rfl, .inl ⟨p, _, rfl, .inr (hps.mono e1).sq, rfl⟩⟩)))) fun H1 e1 => bw_nil ?_)
  refine bw_cons (sw_set 2 (EVgo ev_int fun H2 e2 => ?_))
  have e02 := e1.trans e2
  refine bw_cons (sw_forT PassesOwn.never (p := p) (xs := ps.map iV) (ev_name 1) (hps.mono e02).sq (fun i σ' H' => ∃ (l : Nat) (z : Option V), σ' = [some (.int (n : Int)), some (.ref p), some (.int (l : Int)), z] ∧ Ex H H' ∧ ∀ y ∈ ps.drop i, l ≤ y) (fun H3 e3 => ⟨0, _, rfl, e02.trans e3, fun _ _ => Nat.zero_le _⟩) (fun i σ' H' _ ⟨_, _, _, e, _⟩ => (hps.mono e).sq) ?_ ?_)
  · rintro i y σ' H' hi ⟨l, z, rfl, e3, hl⟩
    rw [List.getElem?_map] at hi
    obtain ⟨v, hv, rfl⟩ : ∃ v, ps[i]? = some v ∧ iV v = y := by
      cases e : ps[i]? with
      | none => rw [e] at hi; cases hi
      | some v =>
        rw [e] at hi
        exact ⟨v, rfl, Option.some.inj hi⟩
    have hvn := hlt v (List.mem_of_getElem? hv)
    obtain ⟨hil, hg⟩ := List.getElem?_eq_some_iff.mp hv
    have hd : ps.drop i = v :: ps.drop (i + 1) := by
      rw [← hg]
      exact List.drop_eq_getElem_cons hil
    have hlv : l ≤ v := hl v (by rw [hd]; exact List.mem_cons_self)
    refine gw_name 3 (bw_cons (sw_ifF (tv_is (tv_not (tv_val (ev_call hwh hr (av_cons (ev_name 3) (av_cons (ev_name 2) (av_cons (ev_sub (ev_name 0) ev_int) av_nil))) (fun H4 e4 => ⟨_, _, _, rfl, rfl⟩)))) ?_) fun H4 e4 => bw_nil ?_))
    · rw [decide_eq_true (show (l : Int) ≤ (v : Int) by omega), decide_eq_true (show (v : Int) ≤ (n : Int) - 1 by omega)]
      rfl
    · refine bw_one (sw_set 2 (EVgo (ev_add (ev_name 3) ev_int) fun H5 e5 => ⟨v + 1, _, rfl, e3.trans (e4.trans e5), fun y hy => ?_⟩))
      have hp2 : (v :: ps.drop (i + 1)).Pairwise (· < ·) := by
        rw [← hd]
        exact List.Pairwise.sublist (List.drop_sublist _ _) hup
      exact (List.pairwise_cons.mp hp2).1 y hy
  · rintro σ' H' ⟨l, z, rfl, e3, hl⟩
    exact bw_one (sw_ret (EVgo ev_bl fun H4 e4 => q _ (e3.trans e4)))
def spEnds (K : PySem.W.Frag) (CW : Addr) : Sp := spV fun vs H v => ∃ wb pf pt, vs = [.ref wb, .ref pf, .ref pt] ∧ ∃ (n : Nat) (W : Mx) (fs ts : List Nat), WbAt K CW H wb n W ∧ Tp K H pf (fs.map iV) ∧ Tp K H pt (ts.map iV) ∧ EndsOk n fs ts ∧ v = .bl true
/-! are_ends: slots 0 web, 1 froms, 2 tos, 3 place -/
theorem sc_are_ends : FnScope ["web", "froms", "tos", "place"] ["web", "froms", "tos"] (defScope s_are_ends) := ⟨rfl, rfl, rfl, by decide +kernel, rfl, by decide +kernel, by decide +kernel⟩
theorem ok_are_ends (T : Tops K mg CR CW CN CH) (hri : Has P w K mg base 2 "are_rising" ["many", "thing"] (spRising K)) : Has P w K mg base 3 "are_ends" ["web", "froms", "tos"] (spEnds K CW) := by
  refine has_of (k := 2) T.are_ends sc_are_ends (fun _ _ _ _ _ _ us hl => match us, hl with | [_, _, _], _ => rfl) (fun vs H Q E h => by
    obtain ⟨_, ⟨wb, pf, pt, rfl, _⟩, _⟩ := h
    rfl) ?_
  intro f cdv A outer s H0 H vs Q E E0 hr h
  obtain ⟨v, ⟨wb, pf, pt, rfl, n, W, fs, ts, hW, hfs, hts, en, rfl⟩, q⟩ := h
  have nd := (sc_are_ends).nd
  have hu64 : (CxD P w K mg base ["web", "froms", "tos", "place"] "are_ends" s_are_ends f cdv A outer s H0 E0).A.units + 64 < cLine := hr.units
  obtain ⟨⟨dw, ww, tp, kvs, g, ys, rows, o1, _⟩, _, hle⟩ := id hW
  obtain ⟨fm, _, _⟩ := wb_fl T o1
  have hfz : fs.length ≤ 7 := Nat.le_trans (nodup_lt n fs (pw_nd en.fnd) en.flt) hle.2
  refine bw_cons (sw_ifF (tv_is (tv_bool (wv_or (k := false) (tv_is (tv_not (tv_val (ev_call hri hr (av_cons (ev_fld (ev_name 0) fm) (av_cons (ev_name 1) av_nil)) (fun H1 e1 => ⟨_, _, rfl, n, fs, rfl, hfs.mono e1, en.fnd, en.flt, rfl⟩)))) rfl) fun _ => wv_one_or (tv_is (tv_not (tv_val (ev_call hri hr (av_cons (ev_fld (ev_name 0) fm) (av_cons (ev_name 2) av_nil)) (fun H1 e1 => ⟨_, _, rfl, n, ts, rfl, hts.mono e1, en.tnd, en.tlt, rfl⟩)))) rfl))) rfl) fun H1 e1 => bw_nil ?_)
  have hne : ∀ {l : List Nat}, l ≠ [] → decide ((0 : Int) < ((l.map iV).length : Nat)) = true := fun {l} h => decide_eq_true (by
    rw [List.length_map]
    have := List.length_pos_iff.mpr h
    omega)
  have hfl : fs.filter (fun x => decide (x ∈ ts)) = [] := List.filter_eq_nil_iff.mpr fun x hx => by
    have := en.dis x hx
    simpa using this
  refine bw_one (sw_ret (EVgo (ev_is (w := .bl true) (ev_and (k := true) (l := true) (ev_is (ev_gt (ev_len T.b.b_len (ev_name 1) (.inr (hfs.mono e1).sq)) ev_int) (by rw [hne en.fne])) fun _ => ev_is (w := .bl true) (ev_and (k := true) (l := true) (ev_is (ev_gt (ev_len T.b.b_len (ev_name 2) (.inr (hts.mono e1).sq)) ev_int) (by rw [hne en.tne])) fun _ => ev_one (ev_is (ev_eqNilL hu64 (ds := dI ((fs.filter fun x => decide (x ∈ ts)).map fun x : Nat => (x : Int))) (evl_compIf (l := fs) (toV := iV) (g := iV) (pf := fun x => decide (x ∈ ts)) (p := pf) [("place", 3)] (ev_name 1) (.inr (hfs.mono e1).sq) (by omega) (fun a => [some (.ref wb), some (.ref pf), some (.ref pt), some (iV a)]) (fun a _ s0 H0 C clo fp => gv_name 3) (fun a => rfl) (fun a ha s0 H0 C clo fp => tv_is (tv_inS (x := iV a) (ev_name 3) (ev_name 2) (.inr (hts.mono e1).sq) rfl (flat_iV _)) (in_iV _ _)) (fun a ha _ s0 H0 C clo fp => ev_name 3)) (fun H1 e1 => dp_iV _) (shL (okA_dI _) (Nat.le_trans (dep_dI _) (by decide)))) (by rw [hfl]; rfl))) rfl) rfl) fun H2 e2 => q _ (e1.trans e2)))
def spAskEnds (K : PySem.W.Frag) (CW : Addr) : Sp := spV fun vs H v => ∃ wb pf pt, vs = [.ref wb, .ref pf, .ref pt] ∧ ∃ (n : Nat) (W : Mx) (fs ts : List Nat), WbAt K CW H wb n W ∧ Tp K H pf (fs.map iV) ∧ Tp K H pt (ts.map iV) ∧ EndsOk n fs ts ∧ v = .non
/-! ask_ends: slots 0 web, 1 froms, 2 tos -/
theorem sc_ask_ends : FnScope ["web", "froms", "tos"] ["web", "froms", "tos"] (defScope s_ask_ends) := ⟨rfl, rfl, rfl, by decide +kernel, rfl, by decide +kernel, by decide +kernel⟩
theorem ok_ask_ends (T : Tops K mg CR CW CN CH) (he : Has P w K mg base 3 "are_ends" ["web", "froms", "tos"] (spEnds K CW)) : Has P w K mg base 4 "ask_ends" ["web", "froms", "tos"] (spAskEnds K CW) := by
  refine has_of (k := 3) T.ask_ends sc_ask_ends (fun _ _ _ _ _ _ us hl => match us, hl with | [_, _, _], _ => rfl) (fun vs H Q E h => by
    obtain ⟨_, ⟨wb, pf, pt, rfl, _⟩, _⟩ := h
    rfl) ?_
  intro f cdv A outer s H0 H vs Q E E0 hr h
  obtain ⟨v, ⟨wb, pf, pt, rfl, n, W, fs, ts, hW, hfs, hts, en, rfl⟩, q⟩ := h
  exact bw_one (sw_ifF (tv_is (tv_not (tv_val (ev_call he hr (av_cons (ev_name 0) (av_cons (ev_name 1) (av_cons (ev_name 2) av_nil))) (fun H1 e1 => ⟨_, _, _, rfl, n, W, fs, ts, hW.mono e1, hfs.mono e1, hts.mono e1, en, rfl⟩)))) rfl) fun H1 e1 => bw_nil (q H1 e1))
end
end Cut


namespace Cut
open PySem PySem.Spec PyProof.Rows L2 Evl
/-! ### sums over rows -/
theorem sm_pairs {n : Nat} (h : Nat → Nat → Int) : ∀ prs : List (Nat × Nat), prs.Nodup → (∀ p ∈ prs, p.1 < n ∧ p.2 < n) → (sm n fun i => sm n fun j => if (i, j) ∈ prs then h i j else 0) = (prs.map fun p => h p.1 p.2).sum
  | [], _, _ => by
    have : (sm n fun i => sm n fun j => if (i, j) ∈ ([] : List (Nat × Nat)) then h i j else 0) = sm n fun _ => 0 := sm_congr fun i _ => by
      exact (sm_congr fun j _ => if_neg List.not_mem_nil).trans (sm_zero n)
    rw [this, sm_zero]
    rfl
  | (a, b) :: r, hn, hl => by
    rw [List.nodup_cons] at hn
    have hab := hl (a, b) List.mem_cons_self
    have ih := sm_pairs h r hn.2 fun p hp => hl p (List.mem_cons_of_mem _ hp)
    have e1 : ∀ i j, (if (i, j) ∈ (a, b) :: r then h i j else 0) = (if i = a then (if j = b then h a b else 0) else 0) + (if (i, j) ∈ r then h i j else 0) := fun i j => by
      by_cases c : i = a ∧ j = b
      · obtain ⟨rfl, rfl⟩ := c
        rw [if_pos List.mem_cons_self, if_pos rfl, if_pos rfl, if_neg hn.1]
        omega
      · have c1 : ((i, j) ∈ (a, b) :: r) ↔ (i, j) ∈ r := by
          rw [List.mem_cons]
          exact ⟨fun z => z.resolve_left fun e => c ⟨congrArg Prod.fst e, congrArg Prod.snd e⟩, .inr⟩
        have c2 : (if i = a then (if j = b then h a b else 0) else 0) = 0 := by
          by_cases c3 : i = a
          · rw [if_pos c3, if_neg fun z => c ⟨c3, z⟩]
          · rw [if_neg c3]
        rw [c2]
        by_cases c4 : (i, j) ∈ r
        · rw [if_pos (c1.mpr c4), if_pos c4]
          omega
        · rw [if_neg fun z => c4 (c1.mp z), if_neg c4]
          rfl
    have e2 : (sm n fun i => sm n fun j => if (i, j) ∈ (a, b) :: r then h i j else 0) = (sm n fun i => if i = a then (sm n fun j => if j = b then h a b else 0) else 0) + sm n fun i => sm n fun j => if (i, j) ∈ r then h i j else 0 := by
      rw [← sm_add]
      refine sm_congr fun i _ => ?_
      rw [sm_congr fun j _ => e1 i j, sm_add]
      congr 1
      exact sm_if (i = a) n _
    rw [e2, ih, sm_one, if_pos hab.1, sm_one, if_pos hab.2]
    rfl
def outR (rows : List Rw) (ps : List Nat) : Nat := ((rows.filter fun t => decide (t.1 ∈ ps) && !decide (t.2.1 ∈ ps)).map fun t => t.2.2).sum
def inR (rows : List Rw) (ps : List Nat) : Nat := ((rows.filter fun t => decide (t.2.1 ∈ ps) && !decide (t.1 ∈ ps)).map fun t => t.2.2).sum
theorem FlRows.nd {n : Nat} {F : Mx} {rows : List Rw} (h : FlRows n F rows) : (rows.map fun t => (t.1, t.2.1)).Nodup := List.pairwise_map.mpr (h.up.imp fun {a b} z e => by
  have e1 : a.1 = b.1 := (Prod.mk.inj e).1
  have e2 : a.2.1 = b.2.1 := (Prod.mk.inj e).2
  have z' : a.1 < b.1 ∨ (a.1 = b.1 ∧ a.2.1 < b.2.1) := z
  omega)
/-- the rows that c lets by, summed -/
theorem rows_sum {n : Nat} {F : Mx} {rows : List Rw} (h : FlRows n F rows) (c : Nat → Nat → Bool) : (sm n fun i => sm n fun j => if c i j = true then max 0 (F i j) else 0) = ((((rows.filter fun t => c t.1 t.2.1).map fun t => t.2.2).sum : Nat) : Int) := by
  have hmem : ∀ i j, (i, j) ∈ ((rows.filter fun t => c t.1 t.2.1).map fun t => (t.1, t.2.1)) ↔ i < n ∧ j < n ∧ 0 < F i j ∧ c i j = true := fun i j => by
    constructor
    · intro hm
      obtain ⟨t, ht, e⟩ := List.mem_map.mp hm
      obtain ⟨h1, h2⟩ := List.mem_filter.mp ht
      obtain ⟨h3, h4, h5, h6⟩ := (h.iff t.1 t.2.1 t.2.2).mp h1
      obtain ⟨rfl, rfl⟩ := Prod.mk.inj e
      exact ⟨h3, h4, by omega, h2⟩
    · rintro ⟨h1, h2, h3, h4⟩
      exact List.mem_map.mpr ⟨(i, j, (F i j).toNat), List.mem_filter.mpr ⟨(h.iff i j _).mpr ⟨h1, h2, by omega, by omega⟩, h4⟩, rfl⟩
  have hnd : ((rows.filter fun t => c t.1 t.2.1).map fun t => (t.1, t.2.1)).Nodup := List.Nodup.sublist (List.Sublist.map _ List.filter_sublist) h.nd
  have e1 := sm_pairs F _ hnd fun p hp => ⟨((hmem p.1 p.2).mp hp).1, ((hmem p.1 p.2).mp hp).2.1⟩
  have e2 : (sm n fun i => sm n fun j => if c i j = true then max 0 (F i j) else 0) = sm n fun i => sm n fun j => if (i, j) ∈ ((rows.filter fun t => c t.1 t.2.1).map fun t => (t.1, t.2.1)) then F i j else 0 := sm_congr fun i hi => sm_congr fun j hj => by
    by_cases z : i < n ∧ j < n ∧ 0 < F i j ∧ c i j = true
    · rw [if_pos ((hmem i j).mpr z), if_pos z.2.2.2]
      omega
    · rw [if_neg fun q => z ((hmem i j).mp q)]
      by_cases z2 : c i j = true
      · rw [if_pos z2]
        have : ¬ 0 < F i j := fun q => z ⟨hi, hj, q, z2⟩
        omega
      · rw [if_neg z2]
  rw [e2, e1, List.map_map]
  have e3 : ∀ l : List Rw, (∀ t ∈ l, F t.1 t.2.1 = (t.2.2 : Int)) → (l.map ((fun p : Nat × Nat => F p.1 p.2) ∘ fun t => (t.1, t.2.1))).sum = (((l.map fun t => t.2.2).sum : Nat) : Int) := by
    intro l
    induction l with
    | nil => exact fun _ => rfl
    | cons t l ih =>
      intro h
      rw [List.map_cons, List.map_cons, List.sum_cons, List.sum_cons, ih fun t ht => h t (List.mem_cons_of_mem _ ht)]
      have := h t List.mem_cons_self
      show F t.1 t.2.1 + _ = _
      omega
  exact e3 _ fun t ht => ((h.iff t.1 t.2.1 t.2.2).mp (List.mem_filter.mp ht).1).2.2.2
theorem out_in {n : Nat} {F : Mx} {rows : List Rw} (h : FlRows n F rows) (hA : Anti F) (ps : List Nat) : (outR rows ps : Int) - (inR rows ps : Int) = onS n (inP ps) (ot n F) := by
  have e1 := rows_sum h fun i j => decide (i ∈ ps) && !decide (j ∈ ps)
  have e2 := rows_sum h fun i j => decide (j ∈ ps) && !decide (i ∈ ps)
  unfold outR inR
  rw [← e1, ← e2, out_acr (inP ps) hA, sm_swap (fun i j => if (decide (j ∈ ps) && !decide (i ∈ ps)) = true then max 0 (F i j) else 0), ← sm_sub]
  refine sm_congr fun i _ => ?_
  rw [← sm_sub]
  refine sm_congr fun j _ => ?_
  have := hA i j
  show (if (decide (i ∈ ps) && !decide (j ∈ ps)) = true then max 0 (F i j) else 0) - (if (decide (i ∈ ps) && !decide (j ∈ ps)) = true then max 0 (F j i) else 0) = if (decide (i ∈ ps) && !decide (j ∈ ps)) = true then F i j else 0
  by_cases c : (decide (i ∈ ps) && !decide (j ∈ ps)) = true
  · rw [if_pos c, if_pos c, if_pos c]
    omega
  · rw [if_neg c, if_neg c, if_neg c]
    rfl
theorem out_in1 {n : Nat} {F : Mx} {rows : List Rw} (h : FlRows n F rows) (hA : Anti F) {v : Nat} (hv : v < n) : (outR rows [v] : Int) - (inR rows [v] : Int) = ot n F v := by
  rw [out_in h hA [v]]
  have : onS n (inP [v]) (ot n F) = sm n fun i => if i = v then ot n F i else 0 := sm_congr fun i _ => by
    by_cases e : i = v
    · rw [if_pos e, if_pos (inP_iff.mpr (by rw [e]; simp))]
    · rw [if_neg e, if_neg fun z => e (by simpa using inP_iff.mp z)]
  rw [this, sm_one' hv]
theorem FlRows.len {n : Nat} {F : Mx} {rows : List Rw} (h : FlRows n F rows) (hn : n ≤ 7) : rows.length ≤ 49 := by
  have h1 : (rows.map fun t => t.1 * n + t.2.1).Nodup := List.pairwise_map.mpr (h.up.imp_of_mem fun {a b} ha hb z e => by
    obtain ⟨_, a2, _⟩ := (h.iff a.1 a.2.1 a.2.2).mp ha
    obtain ⟨_, b2, _⟩ := (h.iff b.1 b.2.1 b.2.2).mp hb
    obtain ⟨e1, e2⟩ := code_inj a2 b2 e
    have z' : a.1 < b.1 ∨ (a.1 = b.1 ∧ a.2.1 < b.2.1) := z
    omega)
  have h2 := nodup_lt (n * n) _ h1 fun x hx => by
    obtain ⟨t, ht, rfl⟩ := List.mem_map.mp hx
    obtain ⟨a1, a2, _⟩ := (h.iff t.1 t.2.1 t.2.2).mp ht
    exact code_lt a1 a2
  rw [List.length_map] at h2
  exact Nat.le_trans h2 (Nat.mul_le_mul hn hn)
end Cut


namespace Cut
open PySem PySem.Spec PyProof.Rows L2 Evl
section
variable {X : Cx} {σ : L2.St} {H : Hp} {pos : Pos} {a b : Expr}
theorem tw_neD (hu : X.A.units + 64 < cLine) {Q : Bool → Hp → Prop} (h : EW X a σ H fun x H1 => EW X b σ H1 fun y H2 => ∃ d e, Dp X.K H2 x d ∧ Dp X.K H2 y e ∧ SeqAt.shaped d = true ∧ SeqAt.shaped e = true ∧ Q (!PyData.eqv d e) H2) : TW X (.Compare a [.NotEq] [b] pos) σ H Q :=
  tw_of (pt_cmpR (op_neD hu) pe_w pe_w (nomark _)) (EW.mono h fun x H1 h => EW.mono h fun y H2 ⟨d, e, h1, h2, h3, h4, h5⟩ => ⟨d, e, h1, h2, h3, h4, _, rfl, h5⟩)
theorem ew_not {Q : VK} (h : EW X a σ H fun x H1 => ∃ k, x = .bl k ∧ Q (.bl (!k)) H1) : EW X (.UnaryOp .Not a pos) σ H Q := ew_of (pe_not pe_w) h
theorem leT2 {i j a b : Int} : Ob.lexAt (fun k => decide ([i, j].getD k 0 = [a, b].getD k 0)) (fun k => decide ([i, j].getD k 0 ≤ [a, b].getD k 0)) (decide ([i, j].length ≤ [a, b].length)) 0 (min [i, j].length [a, b].length) = decide (i < a ∨ (i = a ∧ j ≤ b)) := by
  show (if decide (i = a) = true then (if decide (j = b) = true then decide (2 ≤ 2) else decide (j ≤ b)) else decide (i ≤ a)) = _
  by_cases h1 : i = a
  · rw [decide_eq_true h1, if_pos rfl]
    by_cases h2 : j = b
    · rw [decide_eq_true h2, if_pos rfl]
      simp
      omega
    · rw [decide_eq_false h2, if_neg (by simp)]
      rw [decide_eq_decide]
      omega
  · rw [decide_eq_false h1, if_neg (by simp), decide_eq_decide]
    omega
/-- (a, b) <= a tuple that stands -/
theorem tv_leT2 (hu : X.A.units < cLine) {i j c d : Int} {q : Addr} (ha : EVU X a σ H [.int i, .int j]) (hb : EV X b σ H (.ref q)) (hq : H q = some (.tup [.int c, .int d])) : TV X (.Compare a [.LtE] [b] pos) σ H (decide (i < c ∨ (i = c ∧ j ≤ d))) :=
  tv_of (pt_cmpR (op_leT hu) pe_w pe_w (nomark _)) fun H1 e1 Q q' => ha H1 e1 _ fun p H2 np e2 hp => hb H2 (e1.trans e2) _ fun H3 e3 => ⟨p, q, [i, j], [c, d], rfl, rfl, SqT.of (e3 _ _ hp), SqT.of (((e1.trans e2).trans e3) _ _ hq), by
    rw [leT2]
    exact ⟨_, rfl, q' H3 (e2.trans e3)⟩⟩
/-- the same with a tuple that stands on the left -/
theorem tv_leT2R (hu : X.A.units < cLine) {i j c d : Int} {p q : Addr} (ha : EV X a σ H (.ref p)) (hp : H p = some (.tup [.int i, .int j])) (hb : EV X b σ H (.ref q)) (hq : H q = some (.tup [.int c, .int d])) : TV X (.Compare a [.LtE] [b] pos) σ H (decide (i < c ∨ (i = c ∧ j ≤ d))) :=
  tv_of (pt_cmpR (op_leT hu) pe_w pe_w (nomark _)) fun H1 e1 Q q' => ha H1 e1 _ fun H2 e2 => hb H2 (e1.trans e2) _ fun H3 e3 => ⟨p, q, [i, j], [c, d], rfl, rfl, SqT.of (((e1.trans e2).trans e3) _ _ hp), SqT.of (((e1.trans e2).trans e3) _ _ hq), by
    rw [leT2]
    exact ⟨_, rfl, q' H3 (e2.trans e3)⟩⟩
end
theorem loA_posi {m : Nat} (h : 0 < m) : 0 < loA m := by
  have := lo_parts m
  refine Nat.pos_of_ne_zero fun z => ?_
  rw [z, Nat.zero_mul] at this
  omega
theorem loB_mod (m : Nat) : (55440 : Int) % (loB m : Int) = 0 := by
  have h := Nat.mod_eq_zero_of_dvd (loB_dvd m)
  have : ((55440 % loB m : Nat) : Int) = 0 := by rw [h]; rfl
  exact this
section
variable {P : Program} {w : World} {K : PySem.W.Frag} {mg : Str → Option Value} {base : Heap} {CR CW CN CH : Addr}
def spFlowRow (K : PySem.W.Frag) : Sp := spV fun vs H v => ∃ x y, vs = [x, y] ∧ ∃ (n : Nat) (t : Rw), x = .int (n : Int) ∧ RowR K t y H ∧ t.1 < n ∧ t.2.1 < n ∧ t.1 ≠ t.2.1 ∧ 0 < t.2.2 ∧ v = .bl true
/-! is_flow_row: slots 0 many, 1 row -/
theorem sc_is_flow_row : FnScope ["many", "row"] ["many", "row"] (defScope s_is_flow_row) := ⟨rfl, rfl, rfl, by decide +kernel, rfl, by decide +kernel, by decide +kernel⟩
theorem ok_is_flow_row (T : Tops K mg CR CW CN CH) (hrow : Has P w K mg base 1 "is_row" ["thing"] (spRow K)) (hwh : Has P w K mg base 1 "is_whole" ["thing", "least", "most"] spWhole) (ham : Has P w K mg base 2 "is_amount" ["thing"] (spIsAm K)) : Has P w K mg base 3 "is_flow_row" ["many", "row"] (spFlowRow K) := by
  refine has_of (k := 2) T.is_flow_row sc_is_flow_row (fun _ _ _ _ _ _ us hl => match us, hl with | [_, _], _ => rfl) (fun vs H Q E h => by
    obtain ⟨_, ⟨x, y, rfl, _⟩, _⟩ := h
    rfl) ?_
  intro f cdv A outer s H0 H vs Q E E0 hr h
  obtain ⟨v, ⟨x, y, rfl, n, ⟨i, j, m⟩, rfl, ⟨p, a, rfl, hp, ha⟩, h1, h2, h3, h4, rfl⟩, q⟩ := h
  replace h1 : i < n := h1
  replace h2 : j < n := h2
  replace h3 : i ≠ j := h3
  replace h4 : 0 < m := h4
  replace ha : Tp K H a [.int (loA m : Nat), .int (loB m : Nat)] := ha
  have ix0 : ∀ {H1 : Hp} {pos p1 p2 : Pos} {jj : Nat}, Ex H H1 → EV (CxD P w K mg base ["many", "row"] "is_flow_row" s_is_flow_row f cdv A outer s H0 E0) (.Subscript (.Name "row" p1) (.Constant (.int 0) jj p2) pos) [some (.int (n : Int)), some (.ref p)] H1 (iV i) := fun e => ev_ixTn 0 (ev_name 1) ev_int (SqT.of (e _ _ hp)) rfl
  have ix1 : ∀ {H1 : Hp} {pos p1 p2 : Pos} {jj : Nat}, Ex H H1 → EV (CxD P w K mg base ["many", "row"] "is_flow_row" s_is_flow_row f cdv A outer s H0 E0) (.Subscript (.Name "row" p1) (.Constant (.int 1) jj p2) pos) [some (.int (n : Int)), some (.ref p)] H1 (iV j) := fun e => ev_ixTn 1 (ev_name 1) ev_int (SqT.of (e _ _ hp)) rfl
  have ix2 : ∀ {H1 : Hp} {pos p1 p2 : Pos} {jj : Nat}, Ex H H1 → EV (CxD P w K mg base ["many", "row"] "is_flow_row" s_is_flow_row f cdv A outer s H0 E0) (.Subscript (.Name "row" p1) (.Constant (.int 2) jj p2) pos) [some (.int (n : Int)), some (.ref p)] H1 (.ref a) := fun e => ev_ixTn 2 (ev_name 1) ev_int (SqT.of (e _ _ hp)) rfl
  have wh : ∀ {t : Nat}, t < n → V.bl (decide ((0 : Int) ≤ (t : Int)) && decide ((t : Int) ≤ (n : Int) - 1)) = .bl true := fun {t} h => by
    rw [decide_eq_true (show (0 : Int) ≤ (t : Int) by omega), decide_eq_true (show (t : Int) ≤ (n : Int) - 1 by omega)]
    rfl
  refine bw_cons (sw_ifF (tv_is (tv_bool (wv_or (k := false) (tv_is (tv_not (tv_val (ev_call hrow hr (av_cons (ev_name 1) av_nil) (fun H1 e1 => ⟨_, rfl, .inl ⟨p, _, rfl, .inr (SqT.of (e1 _ _ hp)), rfl⟩⟩)))) rfl) fun _ => wv_one_or (tv_is (tv_ne (ev_len T.b.b_len (ev_name 1) (.inr (SqT.of hp))) ev_int) rfl))) rfl) fun H1 e1 => bw_nil ?_)
  refine bw_cons (sw_ifF (tv_is (tv_bool (wv_or (k := false) (tv_is (tv_not (tv_val (ev_is (ev_call hwh hr (av_cons (ix0 e1) (av_cons ev_int (av_cons (ev_sub (ev_name 0) ev_int) av_nil))) (fun H1 e1 => ⟨_, _, _, rfl, rfl⟩)) (wh h1)))) rfl) fun _ => wv_or (k := false) (tv_is (tv_not (tv_val (ev_is (ev_call hwh hr (av_cons (ix1 e1) (av_cons ev_int (av_cons (ev_sub (ev_name 0) ev_int) av_nil))) (fun H1 e1 => ⟨_, _, _, rfl, rfl⟩)) (wh h2)))) rfl) fun _ => wv_one_or (tv_is (tv_eq (ix0 e1) (ix1 e1)) (decide_eq_false fun z => h3 (by have := V.int.inj z; omega))))) rfl) fun H2 e2 => bw_nil ?_)
  have e12 := e1.trans e2
  have ha2 := (ha.mono e12).sq
  refine bw_one (sw_ret (EVgo (ev_is (w := .bl true) (ev_and (k := true) (l := true) (ev_call ham hr (av_cons (ix2 e12) av_nil) (fun H1 e1 => ⟨_, rfl, m, ⟨a, rfl, .inr ((ha.mono e12).mono e1).sq⟩, rfl⟩)) fun _ => ev_is (w := .bl true) (ev_and (k := true) (l := true) (ev_is (ev_gt (ev_ixTn 0 (ix2 e12) ev_int ha2 rfl) ev_int) (by
      rw [decide_eq_true]
      have := loA_posi h4
      omega)) fun _ => ev_one (ev_is (ev_eq (ev_mod (ev_globI T.b.BELOW) (ev_ixTn 1 (ix2 e12) ev_int ha2 rfl) (by have := loB_pos m; omega)) ev_int) (by rw [loB_mod]; rfl))) rfl) rfl) fun H3 e3 => q H3 (e12.trans e3)))
def spFlowRows (K : PySem.W.Frag) : Sp := spV fun vs H v => ∃ x y, vs = [x, y] ∧ ∃ (n : Nat) (rows : List Rw) (F : Mx), x = .int (n : Int) ∧ n ≤ 7 ∧ FlAt K H y rows ∧ FlRows n F rows ∧ Anti F ∧ v = .bl true
theorem FlRows.ne {n : Nat} {F : Mx} {rows : List Rw} (h : FlRows n F rows) (hA : Anti F) {t : Rw} (ht : t ∈ rows) : t.1 < n ∧ t.2.1 < n ∧ t.1 ≠ t.2.1 ∧ 0 < t.2.2 ∧ F t.1 t.2.1 = (t.2.2 : Int) := by
  obtain ⟨h1, h2, h3, h4⟩ := (h.iff t.1 t.2.1 t.2.2).mp ht
  refine ⟨h1, h2, fun z => ?_, h3, h4⟩
  rw [z] at h4
  have := anti_self hA t.2.1
  omega
/-! are_flow_rows: slots 0 many, 1 flow, 2 known, 3 last, 4 row -/
theorem sc_are_flow_rows : FnScope ["many", "flow", "known", "last", "row"] ["many", "flow"] (defScope s_are_flow_rows) := ⟨rfl, rfl, rfl, by decide +kernel, rfl, by decide +kernel, by decide +kernel⟩
theorem ok_are_flow_rows (T : Tops K mg CR CW CN CH) (hrow : Has P w K mg base 1 "is_row" ["thing"] (spRow K)) (hfr : Has P w K mg base 3 "is_flow_row" ["many", "row"] (spFlowRow K)) : Has P w K mg base 4 "are_flow_rows" ["many", "flow"] (spFlowRows K) := by
  refine has_of (k := 3) T.are_flow_rows sc_are_flow_rows (fun _ _ _ _ _ _ us hl => match us, hl with | [_, _], _ => rfl) (fun vs H Q E h => by
    obtain ⟨_, ⟨x, y, rfl, _⟩, _⟩ := h
    rfl) ?_
  intro f cdv A outer s H0 H vs Q E E0 hr h
  obtain ⟨v, ⟨x, y, rfl, n, rows, F, rfl, hn7, ⟨fp, ys, rfl, hys, hrows⟩, hF, hA, rfl⟩, q⟩ := h
  have nd := (sc_are_flow_rows).nd
  have hu := hu_of hr
  have hu0 : (CxD P w K mg base ["many", "flow", "known", "last", "row"] "are_flow_rows" s_are_flow_rows f cdv A outer s H0 E0).A.units < cLine := Nat.lt_of_le_of_lt (Nat.le_add_right _ _) hr.units
  refine bw_cons (sw_ifF (tv_not (tv_val (ev_call hrow hr (av_cons (ev_name 1) av_nil) (fun H1 e1 => ⟨_, rfl, .inl ⟨fp, _, rfl, .inr (SqT.of (e1 _ _ hys)), rfl⟩⟩)))) fun H1 e1 => bw_nil ?_)
  refine bw_cons (sw_set 2 (ew_of pe_dnewT fun kd hkd => ?_))
  have fkd : H kd = none := Evl.fresh_back e1 hkd
  refine bw_cons (sw_set 3 (EUgo (evu_tup (av_cons (ev_neg ev_int) (av_cons (ev_neg ev_int) av_nil))) fun la H2 nla e2 hla => ?_))
  have e02 : Ex H H2 := (e1.trans (Ex.new hkd)).trans e2
  refine bw_cons (sw_forT PassesOwn.never (p := fp) (xs := ys) (ev_name 1) (SqT.of (e02 _ _ hys)) (fun k σ' H' => ∃ (la : Addr) (z : Option V) (kvs : List (List Key × V)) (g : Nat → Nat → Option V) (a b : Int), σ' = [some (.int (n : Int)), some (.ref fp), some (.ref kd), some (.ref la), z] ∧ Ex H H' ∧ H' la = some (.tup [.int a, .int b]) ∧ H' kd = some (.dT kvs) ∧ Pd n kvs g ∧ (∀ t, rows[k]? = some t → a < t.1 ∨ (a = t.1 ∧ b < t.2.1)) ∧ (∀ i j, g i j ≠ none → ∃ m, (i, j, m) ∈ rows)) ?_ ?_ ?_ ?_)
  · intro H3 e3
    exact ⟨la, _, [], fun _ _ => none, -1, -1, rfl, e02.trans e3, e3 _ _ hla, e3 _ _ (e2 _ _ upd_same), Pd.nil n, fun t ht => .inl (by omega), fun i j h => absurd rfl h⟩
  · rintro i σ' H' _ ⟨_, _, _, _, _, _, _, e, _⟩
    exact SqT.of (e _ _ hys)
  · rintro k x σ' H' hk ⟨la, z, kvs, g, a, b, rfl, e3, hla, hkd3, hpd, hlt, hg⟩
    obtain ⟨t, ht⟩ : ∃ t, rows[k]? = some t := by
      have := (List.getElem?_eq_some_iff.mp hk).1
      rw [hrows.1] at this
      exact ⟨_, List.getElem?_eq_getElem this⟩
    have hrR := (hrows.2 k _ x ht hk).kt (Kt.of e3)
    obtain ⟨i, j, m⟩ := t
    obtain ⟨p, pa, rfl, hp1, hp2⟩ := id hrR
    obtain ⟨h1, h2, h3, h4, h5⟩ := hF.ne hA (List.mem_of_getElem? ht)
    have hlt' := hlt _ ht
    replace hlt' : a < (i : Int) ∨ (a = (i : Int) ∧ b < (j : Int)) := hlt'
    have ix0 : ∀ {H1 : Hp} {pos p1 p2 : Pos} {jj : Nat} {la : Addr}, Ex H' H1 → EV (CxD P w K mg base ["many", "flow", "known", "last", "row"] "are_flow_rows" s_are_flow_rows f cdv A outer s H0 E0) (.Subscript (.Name "row" p1) (.Constant (.int 0) jj p2) pos) [some (.int (n : Int)), some (.ref fp), some (.ref kd), some (.ref la), some (.ref p)] H1 (iV i) := fun e => ev_ixTn 0 (ev_name 4) ev_int (SqT.of (e _ _ hp1)) rfl
    have ix1 : ∀ {H1 : Hp} {pos p1 p2 : Pos} {jj : Nat} {la : Addr}, Ex H' H1 → EV (CxD P w K mg base ["many", "flow", "known", "last", "row"] "are_flow_rows" s_are_flow_rows f cdv A outer s H0 E0) (.Subscript (.Name "row" p1) (.Constant (.int 1) jj p2) pos) [some (.int (n : Int)), some (.ref fp), some (.ref kd), some (.ref la), some (.ref p)] H1 (iV j) := fun e => ev_ixTn 1 (ev_name 4) ev_int (SqT.of (e _ _ hp1)) rfl
    have gji : g j i = none := by
      cases e : g j i with
      | none => rfl
      | some v =>
        obtain ⟨m', hm'⟩ := hg j i (by rw [e]; exact fun z => by cases z)
        obtain ⟨_, _, g3, g4⟩ := (hF.iff j i m').mp hm'
        have := hA i j
        replace h5 : F i j = (m : Int) := h5
        replace h4 : 0 < m := h4
        omega
    refine gw_name 4 (bw_cons (sw_ifF (tv_is (tv_bool (wv_or (k := false) (tv_is (tv_not (tv_val (ev_call hfr hr (av_cons (ev_name 0) (av_cons (ev_name 4) av_nil)) (fun H1 e1 => ⟨_, _, rfl, n, _, rfl, hrR.kt (Kt.of e1), h1, h2, h3, h4, rfl⟩)))) rfl) fun _ => wv_or (k := false) (tv_is (tv_leT2 hu0 (evu_tup (av_cons (ix0 (Ex.refl _)) (av_cons (ix1 (Ex.refl _)) av_nil))) (ev_name 3) hla) (decide_eq_false (by omega))) fun _ => wv_one_or (tv_is (tv_inT (k := kp j i) hu (evu_tup (av_cons (ix1 (Ex.refl _)) (av_cons (ix0 (Ex.refl _)) av_nil))) (ev_name 2) (.inl hkd3)) (by rw [hpd.val, gji]; rfl)))) rfl) fun H4 e4 => bw_nil ?_))
    refine bw_cons (sw_set 3 (EUgo (evu_tup (av_cons (ix0 e4) (av_cons (ix1 e4) av_nil))) fun lb H5 nlb e5 hlb => ?_))
    refine bw_one (sw_dput hu (EVgo ev_bl fun H6 e6 => EVgo (ev_name 2) fun H7 e7 => EVgo (ev_name 3) fun H8 e8 => ⟨kd, _, rfl, DPut.t (k := kp i j) ((((e4.trans e5).trans e6).trans (e7.trans e8)) _ _ hkd3) (((e6.trans e7).trans e8) _ _ hlb) (hpd.small (Nat.le_trans hn7 (by decide))), ?_⟩))
    have e48 := ((e4.trans e5).trans e6).trans (e7.trans e8)
    have nlk : lb ≠ kd := fun z => by
      rw [z, e4 _ _ hkd3] at nlb
      cases nlb
    have k1 : Km [kd] H (upd H8 kd (.dT (putK kvs (kp i j) (.bl true)))) := (Km.of (e3.trans e48)).upd (by simp)
    refine ⟨lb, _, _, _, (i : Int), (j : Int), rfl, Km.nil ((Km.of (M := []) (Ex.refl H)).drop k1 (by simp [fkd])), by rw [upd_ne nlk]; exact ((e6.trans e7).trans e8) _ _ hlb, upd_same, hpd.put h1 h2 (.bl true), fun t ht2 => ?_, fun a' b' hab => ?_⟩
    · have hup := List.pairwise_iff_getElem.mp hF.up k (k + 1) (List.getElem?_eq_some_iff.mp ht).1 (List.getElem?_eq_some_iff.mp ht2).1 (by omega)
      rw [(List.getElem?_eq_some_iff.mp ht).2, (List.getElem?_eq_some_iff.mp ht2).2] at hup
      have hup' : i < t.1 ∨ (i = t.1 ∧ j < t.2.1) := hup
      omega
    · by_cases c : a' = i ∧ b' = j
      · rw [c.1, c.2]
        exact ⟨m, List.mem_of_getElem? ht⟩
      · rw [if_neg c] at hab
        exact hg a' b' hab
  · rintro σ' H' ⟨la, z, kvs, g, a, b, rfl, e3, _⟩
    exact bw_one (sw_ret (EVgo ev_bl fun H4 e4 => q _ (e3.trans e4)))
end
end Cut


namespace Cut
open PySem PySem.Spec PyProof.Rows L2 Evl
/-- rows with the addresses of their amounts -/
abbrev RwA := Rw × Addr
def RowA (K : PySem.W.Frag) (t : RwA) (y : V) (H : Hp) : Prop := ∃ q, y = .ref q ∧ H q = some (.tup [iV t.1.1, iV t.1.2.1, .ref t.2]) ∧ Tp K H t.2 [.int (loA t.1.2.2 : Nat), .int (loB t.1.2.2 : Nat)]
theorem RowA.kt {K : PySem.W.Frag} {t : RwA} {y : V} {H H' : Hp} (h : RowA K t y H) (k : Kt H H') : RowA K t y H' := by
  obtain ⟨q, h1, h2, h3⟩ := h
  exact ⟨q, h1, k _ _ h2, h3.kt k⟩
theorem rowA_of {K : PySem.W.Frag} {H : Hp} : ∀ {rows : List Rw} {ys : List V}, AllR (RowR K) rows ys H → ∃ rs : List RwA, rs.map Prod.fst = rows ∧ AllR (RowA K) rs ys H
  | [], [], _ => ⟨[], rfl, AllR.nil⟩
  | [], y :: ys, h => by cases h.1
  | a :: l, [], h => by cases h.1
  | a :: l, y :: ys, h => by
    obtain ⟨q, b, e, h1, h2⟩ := h.2 0 a y rfl rfl
    obtain ⟨rs, e1, h3⟩ := rowA_of (rows := l) (ys := ys) ⟨Nat.succ.inj h.1, fun k b z h3 h4 => h.2 (k + 1) b z h3 h4⟩
    refine ⟨(a, b) :: rs, by rw [List.map_cons, e1], by rw [List.length_cons, List.length_cons, h3.1], fun k t z hk hz => ?_⟩
    cases k with
    | zero =>
      have e2 : (a, b) = t := Option.some.inj hk
      have e3 : y = z := Option.some.inj hz
      rw [← e2, ← e3]
      exact ⟨q, e, h1, h2⟩
    | succ k => exact h3.2 k t z hk hz
theorem rowA_sum {rs : List RwA} {rows : List Rw} (h : rs.map Prod.fst = rows) (pf : Rw → Bool) : ((rs.filter fun t => pf t.1).map fun t => t.1.2.2) = (rows.filter pf).map fun t => t.2.2 := by
  rw [← h, List.filter_map, List.map_map]
  rfl
section
variable {P : Program} {w : World} {K : PySem.W.Frag} {mg : Str → Option Value} {base : Heap} {CR CW CN CH : Addr}
def spOut (K : PySem.W.Frag) : Sp := fun vs H Q _ => ∃ x p, vs = [x, .ref p] ∧ ∃ (rows : List Rw) (ps : List Nat), FlAt K H x rows ∧ rows.length ≤ 49 ∧ Sq K H p (ps.map iV) ∧ ∀ v H', Ex H H' → Amt K H' v (outR rows ps) → Q v H'
/-! going_out: slots 0 flow, 1 places, 2 i, 3 j, 4 amount -/
theorem sc_going_out : FnScope ["flow", "places", "i", "j", "amount"] ["flow", "places"] (defScope s_going_out) := ⟨rfl, rfl, rfl, by decide +kernel, rfl, by decide +kernel, by decide +kernel⟩
theorem ok_going_out (T : Tops K mg CR CW CN CH) (ht : Has P w K mg base 4 "total" ["amounts"] (spTotal K)) : Has P w K mg base 5 "going_out" ["flow", "places"] (spOut K) := by
  refine has_of (k := 4) T.going_out sc_going_out (fun _ _ _ _ _ _ us hl => match us, hl with | [_, _], _ => rfl) (fun vs H Q E h => by
    obtain ⟨x, p, rfl, _⟩ := h
    rfl) ?_
  intro f cdv A outer s H0 H vs Q E E0 hr h
  obtain ⟨x, p, rfl, rows, ps, ⟨fp, ys, rfl, hys, hrows⟩, hz, hps, q⟩ := h
  have nd := (sc_going_out).nd
  obtain ⟨rs, hrs, hall⟩ := rowA_of hrows
  refine bw_one (sw_ret (ew_call ht hr (aw_cons (ew_lcIf (own := [("i", 2), ("j", 3), ("amount", 4)]) (lc_of (iw_T (EVgo (ev_name 0) fun H1 e1 => ⟨fp, rfl, ⟨_, SqT.of (e1 _ _ hys)⟩, ?_⟩)))))))
  have hl : rs.length = rows.length := by rw [← hrs, List.length_map]
  refine lc_goX (l := rs) (pf := fun t => decide (t.1.1 ∈ ps) && !decide (t.1.2.1 ∈ ps)) (n := ys.length) (G := fun H => SqT K H fp ys) (Y := YAt ys) (Fx := fun t x H => RowA K t x H) (R := fun t y H => Amt K H y t.1.2.2) (sg := fun t x => [some (.ref fp), some (.ref p), some (iV t.1.1), some (iV t.1.2.1), some (.ref t.2)]) walk_tup (fun H2 e2 => SqT.of (e2 _ _ (e1 _ _ hys))) hall.1.symm (by rw [hall.1, hl]; omega) ?_ (fun t x H1 H2 h e => h.kt (Kt.of e)) ?_ (fun _ _ => rfl) ?_ ?_ (fun t y H1 H2 h k => h.kt k) ?_
  · rintro i t x H2 H3 ht e2 ⟨rfl, hx⟩
    exact ⟨Ex.refl _, (hall.2 i t x ht hx).kt (Kt.of (e1.trans e2))⟩
  · rintro t _ x H2 e2 ⟨a, rfl, h1, h2⟩ s0 H0 C clo fp
    exact gv_tup3 (SqT.of h1) (gv_name 2) (gv_name 3) (gv_name 4)
  · rintro t _ x H2 e2 hx
    refine tv_b fun s0 H0 C clo fp => ?_
    have hps2 := hps.mono (e1.trans e2)
    exact tv_bool (wv_and (tv_is (tv_inS (x := iV t.1.1) (ev_name 2) (ev_name 1) hps2 rfl (flat_iV _)) (by rw [in_iV])) fun _ => wv_one_and (tv_is (tv_niS (x := iV t.1.2.1) (ev_name 3) (ev_name 1) hps2 rfl (flat_iV _)) (by rw [in_iV])))
  · rintro t _ _ x H2 e2 ⟨a, rfl, h1, h2⟩ s0 H0 C clo fp
    exact EX.ev (ev_name 4) fun H3 e3 => ⟨t.2, rfl, h2.mono e3⟩
  · intro d zs H2 hd e2 hzs hall2
    refine aw_nil ⟨d, rfl, zs, (rs.filter fun t => decide (t.1.1 ∈ ps) && !decide (t.1.2.1 ∈ ps)).map fun t => t.1.2.2, .inl (.inl hzs), ⟨?_, fun k x m h1 h2 => ?_⟩, fun v H3 e3 hv => q v H3 ((e1.trans e2).trans e3) ?_⟩
    · rw [List.length_map]
      exact hall2.1
    · rw [List.getElem?_map] at h2
      cases e : (rs.filter fun t => decide (t.1.1 ∈ ps) && !decide (t.1.2.1 ∈ ps))[k]? with
      | none => rw [e] at h2; cases h2
      | some t =>
        rw [e] at h2
        cases h2
        exact hall2.2 k t x e h1
    · rw [rowA_sum hrs fun t => decide (t.1 ∈ ps) && !decide (t.2.1 ∈ ps)] at hv
      exact hv
def spIn (K : PySem.W.Frag) : Sp := fun vs H Q _ => ∃ x p, vs = [x, .ref p] ∧ ∃ (rows : List Rw) (ps : List Nat), FlAt K H x rows ∧ rows.length ≤ 49 ∧ Sq K H p (ps.map iV) ∧ ∀ v H', Ex H H' → Amt K H' v (inR rows ps) → Q v H'
/-! coming_in: slots 0 flow, 1 places, 2 i, 3 j, 4 amount -/
theorem sc_coming_in : FnScope ["flow", "places", "i", "j", "amount"] ["flow", "places"] (defScope s_coming_in) := ⟨rfl, rfl, rfl, by decide +kernel, rfl, by decide +kernel, by decide +kernel⟩
theorem ok_coming_in (T : Tops K mg CR CW CN CH) (ht : Has P w K mg base 4 "total" ["amounts"] (spTotal K)) : Has P w K mg base 5 "coming_in" ["flow", "places"] (spIn K) := by
  refine has_of (k := 4) T.coming_in sc_coming_in (fun _ _ _ _ _ _ us hl => match us, hl with | [_, _], _ => rfl) (fun vs H Q E h => by
    obtain ⟨x, p, rfl, _⟩ := h
    rfl) ?_
  intro f cdv A outer s H0 H vs Q E E0 hr h
  obtain ⟨x, p, rfl, rows, ps, ⟨fp, ys, rfl, hys, hrows⟩, hz, hps, q⟩ := h
  have nd := (sc_coming_in).nd
  obtain ⟨rs, hrs, hall⟩ := rowA_of hrows
  refine bw_one (sw_ret (ew_call ht hr (aw_cons (ew_lcIf (own := [("i", 2), ("j", 3), ("amount", 4)]) (lc_of (iw_T (EVgo (ev_name 0) fun H1 e1 => ⟨fp, rfl, ⟨_, SqT.of (e1 _ _ hys)⟩, ?_⟩)))))))
  have hl : rs.length = rows.length := by rw [← hrs, List.length_map]
  refine lc_goX (l := rs) (pf := fun t => decide (t.1.2.1 ∈ ps) && !decide (t.1.1 ∈ ps)) (n := ys.length) (G := fun H => SqT K H fp ys) (Y := YAt ys) (Fx := fun t x H => RowA K t x H) (R := fun t y H => Amt K H y t.1.2.2) (sg := fun t x => [some (.ref fp), some (.ref p), some (iV t.1.1), some (iV t.1.2.1), some (.ref t.2)]) walk_tup (fun H2 e2 => SqT.of (e2 _ _ (e1 _ _ hys))) hall.1.symm (by rw [hall.1, hl]; omega) ?_ (fun t x H1 H2 h e => h.kt (Kt.of e)) ?_ (fun _ _ => rfl) ?_ ?_ (fun t y H1 H2 h k => h.kt k) ?_
  · rintro i t x H2 H3 ht e2 ⟨rfl, hx⟩
    exact ⟨Ex.refl _, (hall.2 i t x ht hx).kt (Kt.of (e1.trans e2))⟩
  · rintro t _ x H2 e2 ⟨a, rfl, h1, h2⟩ s0 H0 C clo fp
    exact gv_tup3 (SqT.of h1) (gv_name 2) (gv_name 3) (gv_name 4)
  · rintro t _ x H2 e2 hx
    refine tv_b fun s0 H0 C clo fp => ?_
    have hps2 := hps.mono (e1.trans e2)
    exact tv_bool (wv_and (tv_is (tv_inS (x := iV t.1.2.1) (ev_name 3) (ev_name 1) hps2 rfl (flat_iV _)) (by rw [in_iV])) fun _ => wv_one_and (tv_is (tv_niS (x := iV t.1.1) (ev_name 2) (ev_name 1) hps2 rfl (flat_iV _)) (by rw [in_iV])))
  · rintro t _ _ x H2 e2 ⟨a, rfl, h1, h2⟩ s0 H0 C clo fp
    exact EX.ev (ev_name 4) fun H3 e3 => ⟨t.2, rfl, h2.mono e3⟩
  · intro d zs H2 hd e2 hzs hall2
    refine aw_nil ⟨d, rfl, zs, (rs.filter fun t => decide (t.1.2.1 ∈ ps) && !decide (t.1.1 ∈ ps)).map fun t => t.1.2.2, .inl (.inl hzs), ⟨?_, fun k x m h1 h2 => ?_⟩, fun v H3 e3 hv => q v H3 ((e1.trans e2).trans e3) ?_⟩
    · rw [List.length_map]
      exact hall2.1
    · rw [List.getElem?_map] at h2
      cases e : (rs.filter fun t => decide (t.1.2.1 ∈ ps) && !decide (t.1.1 ∈ ps))[k]? with
      | none => rw [e] at h2; cases h2
      | some t =>
        rw [e] at h2
        cases h2
        exact hall2.2 k t x e h1
    · rw [rowA_sum hrs fun t => decide (t.2.1 ∈ ps) && !decide (t.1 ∈ ps)] at hv
      exact hv
def spBal (K : PySem.W.Frag) : Sp := spV fun vs H v => ∃ x pf pt y, vs = [x, .ref pf, .ref pt, y] ∧ ∃ (n : Nat) (fs ts : List Nat) (rows : List Rw) (F : Mx), x = .int (n : Int) ∧ n ≤ 7 ∧ Tp K H pf (fs.map iV) ∧ Tp K H pt (ts.map iV) ∧ FlAt K H y rows ∧ FlRows n F rows ∧ Anti F ∧ (∀ u, u < n → inP fs u = false → inP ts u = false → ot n F u = 0) ∧ 0 ≤ wor n (inP fs) F ∧ v = .bl true
/-! is_balanced: slots 0 many, 1 froms, 2 tos, 3 flow, 4 place -/
theorem sc_is_balanced : FnScope ["many", "froms", "tos", "flow", "place"] ["many", "froms", "tos", "flow"] (defScope s_is_balanced) := ⟨rfl, rfl, rfl, by decide +kernel, rfl, by decide +kernel, by decide +kernel⟩
theorem ok_is_balanced (T : Tops K mg CR CW CN CH) (hgo : Has P w K mg base 5 "going_out" ["flow", "places"] (spOut K)) (hco : Has P w K mg base 5 "coming_in" ["flow", "places"] (spIn K)) (hbe : Has P w K mg base 1 "is_below" ["one", "other"] (spBelow K)) : Has P w K mg base 6 "is_balanced" ["many", "froms", "tos", "flow"] (spBal K) := by
  refine has_of (k := 5) T.is_balanced sc_is_balanced (fun _ _ _ _ _ _ us hl => match us, hl with | [_, _, _, _], _ => rfl) (fun vs H Q E h => by
    obtain ⟨_, ⟨x, pf, pt, y, rfl, _⟩, _⟩ := h
    rfl) ?_
  intro f cdv A outer s H0 H vs Q E E0 hr h
  obtain ⟨v, ⟨x, pf, pt, y, rfl, n, fs, ts, rows, F, rfl, hn7, hfs, hts, hfl, hF, hA, hbal, hwor, rfl⟩, q⟩ := h
  have nd := (sc_is_balanced).nd
  have hu64 : (CxD P w K mg base ["many", "froms", "tos", "flow", "place"] "is_balanced" s_is_balanced f cdv A outer s H0 E0).A.units + 64 < cLine := hr.units
  have hz := hF.len hn7
  refine bw_cons (sw_forR1 PassesOwn.never T.b.b_range (ev_name 0) (by omega) (fun i σ' H' => ∃ z : Option V, σ' = [some (.int (n : Int)), some (.ref pf), some (.ref pt), some y, z] ∧ Ex H H') (fun H1 e1 => ⟨_, rfl, e1⟩) ?_ ?_)
  · rintro i σ' H' hi ⟨z, rfl, e1⟩
    refine gw_name 4 (bw_one (sw_ifV (k := !decide (i ∈ fs) && !decide (i ∈ ts)) (tv_bool (wv_and (tv_is (tv_niS (x := iV i) (ev_name 4) (ev_name 1) (.inr (hfs.mono e1).sq) rfl (flat_iV _)) (by rw [in_iV])) fun _ => wv_one_and (tv_is (tv_niS (x := iV i) (ev_name 4) (ev_name 2) (.inr (hts.mono e1).sq) rfl (flat_iV _)) (by rw [in_iV])))) ?_ ?_))
    · intro hb H2 e2
      simp only [Bool.and_eq_true, Bool.not_eq_true', decide_eq_false_iff_not] at hb
      have h0 := hbal i hi (by cases e : inP fs i with | false => rfl | true => exact absurd (inP_iff.mp e) hb.1) (by cases e : inP ts i with | false => rfl | true => exact absurd (inP_iff.mp e) hb.2)
      have hio := out_in1 hF hA hi
      rw [h0] at hio
      have hoi : outR rows [i] = inR rows [i] := by omega
      refine bw_one (sw_if (tw_neD hu64 (ew_call hgo hr (aw_cons (EVgo (ev_name 3) fun H3 e3 => aw_cons (ELgo (evl_lst (av_cons (ev_name 4) av_nil)) fun p H4 np e4 hp => aw_nil ⟨y, p, rfl, rows, [i], hfl.kt (Kt.of (((e1.trans e2).trans e3).trans e4)), hz, .inl (.inl (.inl hp)), fun v1 H5 e5 hv1 => ew_call hco hr (aw_cons (EVgo (ev_name 3) fun H6 e6 => aw_cons (ELgo (evl_lst (av_cons (ev_name 4) av_nil)) fun p' H7 np' e7 hp' => aw_nil ⟨y, p', rfl, rows, [i], hfl.kt (Kt.of ((((e1.trans e2).trans e3).trans e4).trans ((e5.trans e6).trans e7))), hz, .inl (.inl (.inl hp')), fun v2 H8 e8 hv2 => ⟨_, _, (hv1.mono ((e6.trans e7).trans e8)).dp, hv2.dp, sh_of (by simp [dAm, okD, okA]) (by simp [dAm, PyData.depth, PyData.depthAll]), sh_of (by simp [dAm, okD, okA]) (by simp [dAm, PyData.depth, PyData.depthAll]), ?_⟩⟩)))⟩))))))
      rw [hoi, (eqv_iff (d := dAm (inR rows [i])) (e := dAm (inR rows [i])) (by simp [dAm, okD, okA]) (by simp [dAm, okD, okA])).mpr rfl]
      exact bw_nil ⟨_, rfl, (((e1.trans e2).trans e3).trans e4).trans ((e5.trans e6).trans (e7.trans e8))⟩
    · intro hb H2 e2
      exact bw_nil ⟨_, rfl, e1.trans e2⟩
  · rintro σ' H' ⟨z, rfl, e1⟩
    have hio := out_in hF hA fs
    have hw : onS n (inP fs) (ot n F) = wor n (inP fs) F := rfl
    rw [hw] at hio
    refine bw_one (sw_ret (ew_not (ew_call hbe hr (aw_cons (ew_call hgo hr (AVgo (av_cons (ev_name 3) (av_cons (ev_name 1) av_nil)) fun H2 e2 => ⟨y, pf, rfl, rows, fs, hfl.kt (Kt.of (e1.trans e2)), hz, .inr (hfs.mono (e1.trans e2)).sq, fun v1 H3 e3 hv1 => aw_cons (ew_call hco hr (AVgo (av_cons (ev_name 3) (av_cons (ev_name 1) av_nil)) fun H4 e4 => ⟨y, pf, rfl, rows, fs, hfl.kt (Kt.of ((e1.trans e2).trans (e3.trans e4))), hz, .inr (hfs.mono ((e1.trans e2).trans (e3.trans e4))).sq, fun v2 H5 e5 hv2 => aw_nil ⟨_, ⟨_, _, rfl, _, _, hv1.mono (e4.trans e5), hv2, rfl⟩, fun H6 e6 => ⟨_, rfl, ?_⟩⟩⟩))⟩))))))
    rw [decide_eq_false (show ¬ outR rows fs < inR rows fs by omega)]
    exact q H6 ((e1.trans e2).trans ((e3.trans e4).trans (e5.trans e6)))
/-- the weight of a tie -/
def spTie (K : PySem.W.Frag) (CW : Addr) (mg : Str → Option Value) : Sp := spV fun vs H v => ∃ (wb : Addr) (i j : Nat), vs = [.ref wb, .int (i : Int), .int (j : Int)] ∧ ∃ dx n wd tp kvs pn, H wb = some (.ins CW dx (wbFs n wd tp)) ∧ H wd = some (.dT kvs) ∧ mg "NOUGHT" = some (.ref pn) ∧ v = (valV kvs (kp (min i j) (max i j))).getD (.ref pn)
/-! Web.tie: slots 0 self, 1 i, 2 j -/
theorem sc_Web_tie : FnScope ["self", "i", "j"] ["self", "i", "j"] (defScope s_Web_tie) := ⟨rfl, rfl, rfl, by decide +kernel, rfl, by decide +kernel, by decide +kernel⟩
theorem ok_Web_tie (T : Tops K mg CR CW CN CH) : HasM P w K mg base CW 1 "tie" ["self", "i", "j"] (spTie K CW mg) := by
  refine hasM_of (k := 0) T.Web_tie sc_Web_tie (fun _ _ _ _ _ _ us hl => match us, hl with | [_, _, _], _ => rfl) (fun vs H Q E h => by
    obtain ⟨_, ⟨r, i, j, rfl, _⟩, _⟩ := h
    rfl) ?_
  intro f cdv A outer s H0 H vs Q E E0 hr h
  obtain ⟨v, ⟨r, i, j, rfl, dx, n, wd, tp, kvs, pn, h1, h2, h3, rfl⟩, q⟩ := h
  obtain ⟨_, fw, _⟩ := wb_fl T h1
  have hu := hu_of hr
  have mi : V.int (min (i : Int) (j : Int)) = .int ((min i j : Nat) : Int) := by congr 1; omega
  have ma : V.int (max (i : Int) (j : Int)) = .int ((max i j : Nat) : Int) := by congr 1; omega
  exact bw_one (sw_ret (EVgo (ev_get2 (k := kp (min i j) (max i j)) hu (ev_fld (ev_name 0) fw) (evu_tup (av_cons (ev_is (ev_min2 T.b.b_min (ev_name 1) (ev_name 2)) mi) (av_cons (ev_is (ev_max2 T.b.b_max (ev_name 1) (ev_name 2)) ma) av_nil))) (ev_glob (v := .ref pn) h3 rfl) h2 rfl) fun H1 e1 => q H1 e1))
theorem Tops.nought {H : Hp} (T : Tops K mg CR CW CN CH) : ∃ pn, mg "NOUGHT" = some (.ref pn) ∧ Amt K H (.ref pn) 0 := by
  obtain ⟨pn, hn1, hn2⟩ := T.b.NOUGHT
  refine ⟨pn, hn1, pn, rfl, ?_⟩
  rcases hn2 (fun _ => none) with h | h
  · rcases h with h | ⟨_, h⟩ <;> cases h
  · exact .inr h
def spFits (K : PySem.W.Frag) (CW : Addr) : Sp := spV fun vs H v => ∃ wb y, vs = [.ref wb, y] ∧ ∃ (n : Nat) (W : Mx) (rows : List Rw) (F : Mx), WbAt K CW H wb n W ∧ FlAt K H y rows ∧ FlRows n F rows ∧ Anti F ∧ (∀ i j, i < n → j < n → F i j ≤ W i j) ∧ v = .bl true
/-! fits: slots 0 web, 1 flow, 2 row -/
theorem sc_fits : FnScope ["web", "flow", "row"] ["web", "flow"] (defScope s_fits) := ⟨rfl, rfl, rfl, by decide +kernel, rfl, by decide +kernel, by decide +kernel⟩
theorem ok_fits (T : Tops K mg CR CW CN CH) (hti : HasM P w K mg base CW 1 "tie" ["self", "i", "j"] (spTie K CW mg)) (hbe : Has P w K mg base 1 "is_below" ["one", "other"] (spBelow K)) : Has P w K mg base 2 "fits" ["web", "flow"] (spFits K CW) := by
  refine has_of (k := 1) T.fits sc_fits (fun _ _ _ _ _ _ us hl => match us, hl with | [_, _], _ => rfl) (fun vs H Q E h => by
    obtain ⟨_, ⟨wb, y, rfl, _⟩, _⟩ := h
    rfl) ?_
  intro f cdv A outer s H0 H vs Q E E0 hr h
  obtain ⟨v, ⟨wb, y, rfl, n, W, rows, F, hW, ⟨fp, ys, rfl, hys, hrows⟩, hF, hA, hcap, rfl⟩, q⟩ := h
  have nd := (sc_fits).nd
  have hu64 : (CxD P w K mg base ["web", "flow", "row"] "fits" s_fits f cdv A outer s H0 E0).A.units + 64 < cLine := hr.units
  obtain ⟨⟨dw, wd, tp, kvs, g, zs, trows, o1, o2, o3, o4, _⟩, o8, o9⟩ := id hW
  obtain ⟨pn, hpn, hn0⟩ := T.nought (H := H)
  have hz := hF.len o9.2
  obtain ⟨rs, hrs, hall⟩ := rowA_of hrows
  have hl : rs.length = rows.length := by rw [← hrs, List.length_map]
  have hln : ys.length ≤ 49 := by rw [hrows.1]; exact hz
  refine bw_one (sw_ret ?_)
  refine EVgo (ev_is (ev_eqNilL hu64 (ds := []) (xs := []) ?_ (fun _ _ => .nil) (by decide)) rfl) fun H1 e1 => q H1 e1
  intro H1 e1 Q' q'
  refine ew_lcIf (own := [("row", 2)]) (lc_of (iw_T (EVgo (ev_name 1) fun H2 e2 => ⟨fp, rfl, ⟨_, SqT.of (e2 _ _ (e1 _ _ hys))⟩, ?_⟩)))
  have e12 := e1.trans e2
  refine lc_goX (l := rs) (pf := fun _ => false) (n := ys.length) (G := fun H => SqT K H fp ys) (Y := YAt ys) (Fx := fun t x H => RowA K t x H) (R := fun t y H => True) (sg := fun t x => [some (.ref wb), some (.ref fp), some x]) walk_tup (fun H2 e2 => SqT.of (e2 _ _ (e12 _ _ hys))) hall.1.symm (by omega) ?_ (fun t x H1 H2 h e => h.kt (Kt.of e)) ?_ (fun _ _ => rfl) ?_ (fun t _ h => (by cases h)) (fun t y H1 H2 h k => trivial) ?_
  · rintro i t x H3 H4 ht e3 ⟨rfl, hx⟩
    exact ⟨Ex.refl _, (hall.2 i t x ht hx).kt (Kt.of (e12.trans e3))⟩
  · rintro t _ x H3 e3 _ s0 H0 C clo fp
    exact gv_name 2
  · rintro t ht x H3 e3 ⟨a, rfl, h1, h2⟩
    refine tv_b fun s0 H0 C clo fp => ?_
    have e13 := e12.trans e3
    have hmem : t.1 ∈ rows := by
      rw [← hrs]
      exact List.mem_map_of_mem ht
    obtain ⟨b1, b2, b3, b4, b5⟩ := hF.ne hA hmem
    have hc := hcap _ _ b1 b2
    have hv : Amt K H3 ((valV kvs (kp (min t.1.1 t.1.2.1) (max t.1.1 t.1.2.1))).getD (.ref pn)) (W t.1.1 t.1.2.1).toNat := by
      have hW2 : W (min t.1.1 t.1.2.1) (max t.1.1 t.1.2.1) = W t.1.1 t.1.2.1 := by
        by_cases c : t.1.1 ≤ t.1.2.1
        · rw [Nat.min_eq_left c, Nat.max_eq_right c]
        · rw [Nat.min_eq_right (by omega), Nat.max_eq_left (by omega)]
          exact o8.sym _ _
      rcases o4 (min t.1.1 t.1.2.1) (max t.1.1 t.1.2.1) (by omega) (by omega) with ⟨v, m, g1, g2, g3⟩ | ⟨g1, g2⟩
      · rw [o3.val, g1, ← hW2, g3]
        exact g2.mono e13
      · rw [o3.val, g1, ← hW2, g2]
        exact hn0.mono e13
    refine tv_is (tv_val (ev_call hbe hr (av_cons (ev_meth hti T.cWeb.cl hr (ev_name 0) (e13 _ _ o1) rfl (av_cons (ev_ixTn 0 (ev_name 2) ev_int (SqT.of h1) rfl) (av_cons (ev_ixTn 1 (ev_name 2) ev_int (SqT.of h1) rfl) av_nil)) (fun H4 e4 => ⟨wb, t.1.1, t.1.2.1, rfl, dw, n, wd, tp, kvs, pn, e4 _ _ (e13 _ _ o1), e4 _ _ (e13 _ _ o2), hpn, rfl⟩)) (av_cons (ev_ixTn 2 (ev_name 2) ev_int (SqT.of h1) rfl) av_nil)) (fun H4 e4 => ⟨_, _, rfl, _, _, hv.mono e4, ⟨t.2, rfl, h2.mono e4⟩, rfl⟩))) (decide_eq_false ?_)
    omega
  · intro d zs H3 hd e3 hzs hall2
    have h0 : zs = [] := by
      have := hall2.1
      rw [show rs.filter (fun _ => false) = [] from List.filter_eq_nil_iff.mpr fun _ _ => by simp] at this
      exact List.length_eq_zero_iff.mp this
    subst h0
    exact q' d H3 (Evl.fresh_back e2 hd) (e2.trans e3) hzs
def spIsFlow (K : PySem.W.Frag) (CW : Addr) : Sp := spV fun vs H v => ∃ wb pf pt y, vs = [.ref wb, .ref pf, .ref pt, y] ∧ ∃ (n : Nat) (W : Mx) (fs ts : List Nat) (rows : List Rw) (F : Mx), WbAt K CW H wb n W ∧ Tp K H pf (fs.map iV) ∧ Tp K H pt (ts.map iV) ∧ EndsOk n fs ts ∧ FlAt K H y rows ∧ FlRows n F rows ∧ Flw n W (inP fs) (inP ts) F ∧ 0 ≤ wor n (inP fs) F ∧ v = .bl true
/-! is_flow: slots 0 web, 1 froms, 2 tos, 3 flow -/
theorem sc_is_flow : FnScope ["web", "froms", "tos", "flow"] ["web", "froms", "tos", "flow"] (defScope s_is_flow) := ⟨rfl, rfl, rfl, by decide +kernel, rfl, by decide +kernel, by decide +kernel⟩
theorem ok_is_flow (T : Tops K mg CR CW CN CH) (hask : Has P w K mg base 4 "ask_ends" ["web", "froms", "tos"] (spAskEnds K CW)) (hfr : Has P w K mg base 4 "are_flow_rows" ["many", "flow"] (spFlowRows K)) (hfi : Has P w K mg base 2 "fits" ["web", "flow"] (spFits K CW)) (hba : Has P w K mg base 6 "is_balanced" ["many", "froms", "tos", "flow"] (spBal K)) : Has P w K mg base 7 "is_flow" ["web", "froms", "tos", "flow"] (spIsFlow K CW) := by
  refine has_of (k := 6) T.is_flow sc_is_flow (fun _ _ _ _ _ _ us hl => match us, hl with | [_, _, _, _], _ => rfl) (fun vs H Q E h => by
    obtain ⟨_, ⟨wb, pf, pt, y, rfl, _⟩, _⟩ := h
    rfl) ?_
  intro f cdv A outer s H0 H vs Q E E0 hr h
  obtain ⟨v, ⟨wb, pf, pt, y, rfl, n, W, fs, ts, rows, F, hW, hfs, hts, en, hfl, hF, hw, hwor, rfl⟩, q⟩ := h
  obtain ⟨⟨dw, ww, tp, kvs, g, ys, trows, o1, _⟩, _, hle⟩ := id hW
  obtain ⟨fm, _, _⟩ := wb_fl T o1
  refine bw_cons (sw_expr (EVgo (ev_call hask hr (av_cons (ev_name 0) (av_cons (ev_name 1) (av_cons (ev_name 2) av_nil))) (fun H1 e1 => ⟨_, _, _, rfl, n, W, fs, ts, hW.mono e1, hfs.mono e1, hts.mono e1, en, rfl⟩)) fun H1 e1 => ?_))
  have fm1 := fm.mono e1
  refine bw_one (sw_ret (EVgo (ev_is (w := .bl true) (ev_and (k := true) (l := true) (ev_call hfr hr (av_cons (ev_fld (ev_name 0) fm1) (av_cons (ev_name 3) av_nil)) (fun H2 e2 => ⟨_, _, rfl, n, rows, F, rfl, hle.2, hfl.kt (Kt.of (e1.trans e2)), hF, hw.anti, rfl⟩)) fun _ => ev_is (w := .bl true) (ev_and (k := true) (l := true) (ev_call hfi hr (av_cons (ev_name 0) (av_cons (ev_name 3) av_nil)) (fun H2 e2 => ⟨_, _, rfl, n, W, rows, F, hW.mono (e1.trans e2), hfl.kt (Kt.of (e1.trans e2)), hF, hw.anti, hw.cap, rfl⟩)) fun _ => ev_one (ev_call hba hr (av_cons (ev_fld (ev_name 0) fm1) (av_cons (ev_name 1) (av_cons (ev_name 2) (av_cons (ev_name 3) av_nil)))) (fun H2 e2 => ⟨_, _, _, _, rfl, n, fs, ts, rows, F, rfl, hle.2, hfs.mono (e1.trans e2), hts.mono (e1.trans e2), hfl.kt (Kt.of (e1.trans e2)), hF, hw.anti, hw.bal, hwor, rfl⟩))) rfl) rfl) fun H2 e2 => q H2 (e1.trans e2)))
end
end Cut


namespace Cut
open PySem PySem.Spec PyProof.Rows L2 Evl
/-! ### sorted(d), d a dict whose keys are tuples of ints -/
section
variable {X : Cx}
def rSortKT (K : PySem.W.Frag) (d : Nat) (B : Int) : List V → Hp → VK → Prop := fun vs H Q => ∃ (a : Addr) (kvs : List (List Key × V)), vs = [.ref a] ∧ Rd H a (.dT kvs) ∧ kvs.length < 64 ∧ (∀ kv ∈ kvs, ∃ ns : List Int, kv.1 = ns.map Sum.inl ∧ ns.length = d ∧ TS.Bd B ns) ∧
  ∀ (bs : List Addr) (ys : List V) (p : Addr), IsKeys H kvs bs → ys.Perm (bs.map V.ref) → ys.Pairwise (fun x y => ∀ n m, TupI K H x n → TupI K H y m → TS.code B n ≤ TS.code B m) → H p = none → Q (.ref p) (upd H p (.lst ys))
theorem acc_keys {P : Program} {w : World} {es : Array DictEntry} {ks : List (List Key × Addr × Value)} {acc : Array Value} (he : es.toList = ks.map (entryOfKey (tupleKind (mixKind P w)))) (it : ItemsOf (fun i v => ∃ en : DictEntry, es[i]? = some en ∧ v = en.key) acc es.size) :
    acc.toList = (ks.map fun x => x.2.1).map Value.ref := by
  have l1 : es.size = ks.length := size_of_entries he
  have hl : acc.toList.length = ks.length := by rw [Array.length_toList, it.1]; exact l1
  rw [List.map_map]
  apply List.ext_getElem?
  intro j
  rw [List.getElem?_map]
  cases hj : acc.toList[j]? with
  | none =>
    have h1 := List.getElem?_eq_none_iff.mp hj
    rw [List.getElem?_eq_none (by omega)]
    all_goals rfl
  | some v =>
    obtain ⟨en, hen, hv⟩ := it.2 j v (by rw [← Array.getElem?_toList]; exact hj)
    have qe := entry_at he j
    rw [hen] at qe
    cases hb : ks[j]? with
    | none =>
      rw [hb] at qe
      exact nomatch (show some en = none from qe)
    | some b =>
      rw [hb] at qe
      have e2 : en = entryOfKey (tupleKind (mixKind P w)) b := Option.some.inj qe
      rw [hv, e2]
      all_goals rfl
theorem cr_sortKT {d : Nat} {B : Int} (hd : 1 ≤ d) (hcalm : X.calm = true := by rfl) : CallR X (.builtin "sorted") (rSortKT X.K d B) := by
  intro pins s σ H vs us Q I r h
  obtain ⟨a, kvs, rfl, hd', h64, hx, q⟩ := h
  rw [Vals.ref1 r]
  obtain ⟨z, hs, ks, pr, o, es, ep, ho, hex, hdt, he, hn⟩ := (show ObjOk X.prog X.w H s.heap a (.dT kvs) from hd'.ok I.hok)
  have l1 : es.size = ks.length := size_of_entries he
  have l2 : kvs.length = ks.length := Paired.length pr
  refine Calls.call_function_entry PyProof.Rows.kind_sorted PyProof.Rows.plain_sorted PyProof.Rows.entry_sorted (PyProof.Rows.args_sorted1 _) ?_
  unfold Builtin.«sorted»
  refine wpAny_bind (m := checkCount "sorted" 1 1 _) (wpAny_pure ?_)
  refine wpAny_bind (PySem.W.kdu_collect (A := X.A.in1) (kdl_raw hs hex hdt) (I.ok.hd hcalm) ho (by omega) fun h' tk acc hk hacc => ?_)
  have eb := acc_keys he hacc
  have I1 : Inv X pins σ H { s with heap := h', toks := tk } := I.kept hk
  have hal : acc.toList.length = ks.length := by rw [eb, List.length_map, List.length_map]
  have hks : IsKeys H kvs (ks.map fun x => x.2.1) := isKeys_of pr
  have hraw : ∀ v ∈ acc.toList, ∃ t ns, v = Value.ref t ∧ SqT X.K H t (ns.map V.int) ∧ ns.length = d ∧ TS.Bd B ns := fun v hv => by
    rw [eb] at hv
    obtain ⟨t, ht, rfl⟩ := List.mem_map.mp hv
    obtain ⟨j, hj⟩ := List.mem_iff_getElem?.mp ht
    have hjl : j < kvs.length := by
      have := (List.getElem?_eq_some_iff.mp hj).1
      rw [List.length_map] at this
      omega
    obtain ⟨kv, hkv, hp⟩ := L2.DX.pget (F := fun (p : List Key × V) b => H b = some (.tup (p.1.map kV))) hks hj
    obtain ⟨ns, e1, e2, e3⟩ := hx kv (List.mem_of_getElem? hkv)
    refine ⟨t, ns, rfl, SqT.of ?_, e2, e3⟩
    rw [e1, List.map_map] at hp
    exact hp
  refine wpAny_bind (wpAny_newList ?_ (by rw [hal, sizeLine_eq]; omega))
  have hoL : (h'.push (seqObj "list" acc.toList.toArray 0)).get? h'.objs.size = some (seqObj "list" acc.toList.toArray 0) := Heap.get?_push_size _ rfl
  have keep : ∀ b o, h'.get? b = some o → o.cls = .type "tuple" → (h'.push (seqObj "list" acc.toList.toArray 0)).get? b = some o := fun b o e _ => Heap.get?_push_of_some _ e
  have tok : TS.TupsOk h' d B acc.toList := fun v hv => by
    obtain ⟨t, ns, rfl, h1, h2, h3⟩ := hraw v hv
    exact ⟨ns, tupI_raw I1 h1, h2, h3⟩
  show wpAny _ _ _ _ _ { s with heap := h'.push (seqObj "list" acc.toList.toArray 0), toks := tk }
  refine wpAny_bind (wpAny_holding (wpAny_call_entry PyProof.Rows.slot_list_sort ⟨_, hoL, rfl⟩ PyProof.Rows.entry_list_sort
    (TS.sort_tups (s := { s with heap := h'.push (seqObj "list" acc.toList.toArray 0), toks := tk }) hoL (by rw [hal]; omega) hd (tok.keeps keep) (fun v => TS.code B (TS.intsOf h' v)) (fun v hv ns t => ?_) fun out a1 a2 => ⟨_, rfl, ?_⟩) (PyProof.Rows.args_list_sort _)))
  · obtain ⟨ns0, t0, _⟩ := tok v hv
    have e : ns = ns0 := t.ints.symm.trans (t0.keeps keep).ints
    rw [e]
    show TS.code B (TS.intsOf h' v) = TS.code B ns0
    rw [t0.ints]
  · obtain ⟨e', he'⟩ := PyProof.Rows.sortedHeap_at (vs := acc.toList) (out := out) hoL
    have h3 : ∀ u ∈ out.toList, ∃ a, u = Value.ref a := fun u hu => by
      obtain ⟨t, _, e, _⟩ := hraw u (a1.mem_iff.mp hu)
      exact ⟨t, e⟩
    have hp : (out.toList.map bkV).Perm ((ks.map fun x => x.2.1).map V.ref) := by
      have h4 := a1.map bkV
      rw [eb, List.map_map] at h4
      exact h4
    have hlen : (out.toList.map bkV).length ≤ sizeLine := by
      rw [hp.length_eq, List.length_map, List.length_map]
      exact Nat.le_trans (by omega : ks.length ≤ 64) (by decide)
    refine wpAny_pure ⟨_, rfl, .ref h'.objs.size, upd H h'.objs.size (.lst (out.toList.map bkV)), I1.laid (t' := tk) (fun b u e => ?_) (Nat.le_refl _)
      (show ObjOk X.prog X.w _ _ _ (.lst (out.toList.map bkV)) from ⟨hlen, out.toList, e', bkV_vals h3, by rw [Array.toArray_toList]; exact he'⟩), rfl, q _ _ _ hks hp ?_ (I1.hok.fresh (Nat.le_refl _))⟩
    · have hb : b < h'.objs.size := Heap.lt_size e
      rw [PyProof.Rows.sortedHeap_old (Nat.ne_of_lt hb) (by rw [size_push']; exact Nat.lt_succ_of_lt hb)]
      exact Heap.get?_push_of_some _ e
    · rw [List.pairwise_map]
      refine List.Pairwise.imp (fun {u v} huv n m hn hm => ?_) a2
      obtain ⟨t, et, ht⟩ := hn
      obtain ⟨t', et', ht'⟩ := hm
      have eu := bkV_ref et
      have ev := bkV_ref et'
      have i1 : TS.intsOf h' u = n := by
        rw [eu]
        exact (tupI_raw I1 ht).ints
      have i2 : TS.intsOf h' v = m := by
        rw [ev]
        exact (tupI_raw I1 ht').ints
      rw [← i1, ← i2]
      exact huv
/-! ### dict(xs), xs a list of pairs whose keys are tuples -/
def mergeT (kvs more : List (List Key × V)) : List (List Key × V) := more.foldl (fun acc kv => putK acc kv.1 kv.2) kvs
theorem KT.merge {H : Hp} : ∀ {more : List (List Key × V)} {rs : List (List Key × Addr × Value)} {kvs : List (List Key × V)} {xs : List (List Key × Addr × Value)}, KT H more rs → KT H kvs xs → KT H (mergeT kvs more) (storedAllH xs rs) := by
  intro more rs kvs xs r
  induction r generalizing kvs xs with
  | nil => exact fun q => q
  | @cons p q ps qs h t ih => exact fun r0 => ih (by
      obtain ⟨h1, h2, h3⟩ := h
      show KT H (putK kvs p.1 p.2) (storedH xs q.1 q.2.1 q.2.2)
      rw [← h1]
      exact KT.put r0 p.1 h2 h3)
theorem length_mergeT (more : List (List Key × V)) : ∀ kvs : List (List Key × V), (mergeT kvs more).length ≤ kvs.length + more.length := by
  induction more with
  | nil => exact fun kvs => Nat.le_refl _
  | cons p r ih =>
    exact fun kvs => by
      have h1 := ih (putK kvs p.1 p.2)
      have h2 : (putK kvs p.1 p.2).length ≤ kvs.length + 1 := by
        cases e : valV kvs p.1 with
        | none => rw [putK_new p.2 e, List.length_append]; exact Nat.le_refl _
        | some v =>
          have : (putK kvs p.1 p.2).length = kvs.length := by
            unfold putK
            rw [valV_any, e]
            exact List.length_map _
          omega
      show (mergeT (putK kvs p.1 p.2) r).length ≤ _
      rw [List.length_cons]
      omega
def PrT (K : PySem.W.Frag) (H : Hp) (p : Addr) (kv : List Key × V) : Prop := ∃ b, SqT K H p [.ref b, kv.2] ∧ H b = some (.tup (kv.1.map kV))
theorem pairs_ofT {pins : List (Addr × Obj)} {σ : L2.St} {H : Hp} {s : Shared} (I : Inv X pins σ H s) : ∀ {ps : List Addr} {kvs : List (List Key × V)}, Paired (PrT X.K H) ps kvs →
    ∃ prs : List (List Key × Addr × Value), KT H kvs prs ∧ prs.length = ps.length ∧ ∀ (j : Nat) (q : List Key × Addr × Value), prs[j]? = some q → ∃ b : Addr, ps[j]? = some b ∧ IsTup s.heap b #[.ref q.2.1, q.2.2]
  | _, _, .nil => ⟨[], .nil, rfl, fun j q e => by simp at e⟩
  | _, _, .cons (a := p) (b := kv) h t => by
    obtain ⟨prs, r, hl, hp⟩ := pairs_ofT I t
    obtain ⟨b, h1, h2⟩ := h
    obtain ⟨its, rv, ht, _⟩ := I.tuple h1
    obtain ⟨u, y, ei, ru, ry⟩ := vals2 rv
    subst ei
    cases ru
    refine ⟨(kv.1, b, y) :: prs, .cons ⟨rfl, h2, ry⟩ r, by rw [List.length_cons, List.length_cons, hl], fun j q e => ?_⟩
    cases j with
    | zero =>
      have e' : (kv.1, b, y) = q := Option.some.inj e
      subst e'
      exact ⟨p, rfl, ht⟩
    | succ j =>
      obtain ⟨b', e1, e2⟩ := hp j q (by simpa using e)
      exact ⟨b', by simpa using e1, e2⟩
theorem call_dictPT (hu : X.A.units + 64 < cLine) (hcalm : X.calm = true := by rfl) : CallR X (.type "dict") (fun xs H Q => ∃ (a : Addr) (ps : List Addr) (kvs : List (List Key × V)), xs = [.ref a] ∧ SqL X.K H a (ps.map V.ref) ∧ Paired (PrT X.K H) ps kvs ∧
    ∀ p, H p = none → Q (.ref p) (upd H p (.dT (mergeT [] kvs)))) := by
  intro pins s σ H xs us Q I r q
  obtain ⟨a, ps, kvs, ex, hq, hp, q⟩ := q
  subst ex
  obtain ⟨u, eu, rx⟩ := vals1 r
  subst eu
  cases rx
  obtain ⟨its, rv, pl, hz⟩ := I.list hq
  have ei := refs_at rv
  subst ei
  rw [List.length_map] at hz
  obtain ⟨prs, rel, hl, hpr⟩ := pairs_ofT I hp
  obtain ⟨o, n, ho, hc, hd, hdat⟩ := pl
  let vp : List (Value × Value) := prs.map fun x => (.ref x.2.1, x.2.2)
  have P := PairArg.list (prog := X.prog) (w := X.w) a (ps.map Value.ref).toArray (fun j => ps.getD j 0) vp
  have hvp : vp.length = prs.length := List.length_map _
  have keysIs : ∀ x ∈ prs, (tupleKind (mixKind X.prog X.w)).is s.heap x.1 x.2.1 := by
    have all : ∀ {l : List (List Key × V)} {m : List (List Key × Addr × Value)}, KT H l m → ∀ x ∈ m, (tupleKind (mixKind X.prog X.w)).is s.heap x.1 x.2.1 := by
      intro l m q
      induction q with
      | nil => intro x hx; exact nomatch hx
      | @cons p q ps qs hq t ih =>
        intro x hx
        rcases List.mem_cons.mp hx with e | hx
        · subst e
          exact key_of I.hok (by rw [← hq.1]; exact hq.2.1)
        · exact ih x hx
    exact all rel
  refine call_dict_pairsH (knd := tupleKind (mixKind X.prog X.w)) (ps := prs) P (I.ok.hd hcalm) (show X.A.in1.in1.units < cLine by show X.A.units + 1 + 1 < cLine; omega) ⟨⟨o, n, ho, hc, hd, hdat⟩, by rw [List.size_toArray, List.length_map, hvp, hl], fun j k v e => ?_⟩ ⟨hvp.symm, fun i key v e => ?_⟩ ?_ (by rw [hvp, hl]; exact hz) fun h' tk hd' k => ?_
  · rw [List.getElem?_map] at e
    cases e2 : prs[j]? with
    | none => rw [e2] at e; cases e
    | some x =>
      rw [e2] at e
      cases e
      obtain ⟨b, h1, h2⟩ := hpr j x e2
      have e3 : ps.getD j 0 = b := by
        rw [List.getD_eq_getElem?_getD, h1]
        rfl
      refine ⟨by 
        show (ps.map Value.ref).toArray[j]? = some (.ref (ps.getD j 0))
        rw [List.getElem?_toArray, List.getElem?_map, h1, e3]
        rfl, .inl ?_⟩
      show s.heap.IsTuple (ps.getD j 0) _
      rw [e3]
      obtain ⟨o', e4, e5, n', e6⟩ := h2
      exact ⟨o', e4, e5, n', e6⟩
  · replace e : (prs.map fun x => ((Value.ref x.2.1, x.2.2) : Value × Value))[i]? = some (key, v) := e
    rw [List.getElem?_map] at e
    cases e2 : prs[i]? with
    | none => rw [e2] at e; cases e
    | some x =>
      rw [e2] at e
      cases e
      exact ⟨x.1, x.2.1, rfl, rfl⟩
  · intro h' hk x hx
    refine tupleKind_stays.stays (fun b o' vs m e q => hk b o' (fun e' => ?_) (fun q => nomatch q) e) (keysIs x hx)
    rw [e'] at e
    exact absurd (Heap.lt_size e) (Nat.lt_irrefl _)
  · have hm : (s.heap.objs.size == sysModules) = false := beq_eq_false_iff_ne.mpr (Nat.ne_of_gt I.big)
    have hlen : (mergeT [] kvs).length ≤ sizeLine := by
      refine Nat.le_trans (length_mergeT kvs []) ?_
      rw [List.length_nil, Nat.zero_add, Paired.length rel, hl]
      exact hz
    obtain ⟨o', es, ep, g1, g2, g3, g4, _, g6⟩ := hd'
    have fr : H s.heap.objs.size = none := I.hok.fresh (Nat.le_refl _)
    refine ⟨.ref s.heap.objs.size, upd H s.heap.objs.size (.dT (mergeT [] kvs)), I.laid (t' := tk) (fun b u e => k b u (fun q => nomatch q) e) (Nat.le_refl _) (show ObjOk X.prog X.w _ _ _ (.dT (mergeT [] kvs)) from ⟨hlen, hm, storedAllH [] prs, KT.keeps (KT.merge rel .nil) (fun b ys e => ?_), o', es, ep, g1, g2, g3, g4, g6⟩), rfl, q _ fr⟩
    have : b ≠ s.heap.objs.size := fun z => by
      rw [z, fr] at e
      cases e
    rw [upd_ne this]
    exact e
end
end Cut


namespace Cut
open PySem PySem.Spec PyProof.Rows L2 Evl
section
variable {X : Cx}
/-! ### dict(d): a copy of a dict whose keys are tuples -/
theorem call_dictH {P : Program} {w : World} {A : Around} {E : Value → Shared → Prop} {s : Shared} {K : Type} [DecidableEq K] {knd : HeapKind P w K} {o : Addr} {more : List (K × Addr × Value)} {Q : Value → Shared → Prop} (hu : knd.room A.in1.in1) (hoS : (o == sysModules) = false) (ho : s.heap.DictOfH knd o more)
    (hst : ∀ h', (∀ b ob, s.heap.get? b = some ob → h'.get? b = some ob) → ∀ x ∈ more, knd.is h' x.1 x.2.1) (hty : ∀ x ∈ more, s.TypeIs (.ref x.2.1) "tuple") (hap : (more.map fun x => knd.hash x.1).Nodup) (hsz : more.length ≤ sizeLine)
    (h : ∀ h', h'.DictOfH knd s.heap.objs.size more → Heap.SameBut s.heap.objs.size (s.heap.push { cls := .type "dict", data := .dict #[] }) h' → Q (.ref s.heap.objs.size) { s with heap := h' }) :
    wpAny (model P w) A (call (.type "dict") [.ref o]) Q E s := by
  refine callType_codes (Q₁ := fun obj s₁ => obj = .ref s.heap.objs.size ∧ s₁ = { s with heap := s.heap.push { cls := .type "dict", data := .dict #[] } }) F.kt_called_dict (F.kt_typeCall_dict_1 _) F.entry_dict_init (kt_code_dict_new _ ⟨rfl, rfl⟩) ?_
  rintro obj s₁ ⟨rfl, rfl⟩
  have hnew : (s.heap.push { cls := .type "dict", data := .dict #[] }).DictOfH knd s.heap.objs.size [] := Heap.DictOfH.new s.heap
  have ho' : (s.heap.push { cls := .type "dict", data := .dict #[] }).DictOfH knd o more := ho.at' (fun _ e => Heap.get?_push_of_some _ e) (hst _ fun _ _ e => Heap.get?_push_of_some _ e)
  have hdo : s.heap.objs.size ≠ o := fun e => absurd ho.lt_size (by rw [e]; exact Nat.lt_irrefl _)
  refine ⟨hnew.typeIs, F.args_dict_init_2 _ _, ?_⟩
  unfold Builtin.«dict.__init__»
  refine wpAny_bind ?_
  unfold Builtin.Dict.selfAndRest
  refine wpAny_bind (wpAny_notOrdered_dict hnew.typeIs ?_)
  show wpAny _ _ (pure (s.heap.objs.size, [Value.ref o])) _ _ _
  refine wpAny_pure ?_
  refine updateFrom_dictH (A := A.in1) (knd := knd) .none hu hdo hoS hnew ho' (.inr ⟨fun x hx => ?_, hap⟩) (by simpa using hsz) fun h' hd' _ hs' => ?_
  · obtain ⟨ob, e1, e2⟩ := hty x hx
    exact ⟨ob, Heap.get?_push_of_some _ e1, e2⟩
  · rw [storedAllH_nil_of_nodup more ho.nodup] at hd'
    exact ⟨rfl, h h' hd' hs'⟩
theorem KT.hashes {P : Program} {w : World} {H : Hp} {kvs : List (List Key × V)} {prs : List (List Key × Addr × Value)} (r : KT H kvs prs) : (prs.map fun x => (tupleKind (mixKind P w)).hash x.1) = kvs.map fun kv => (tupleKind (mixKind P w)).hash kv.1 := by
  induction r with
  | nil => rfl
  | cons h t ih => rw [List.map_cons, List.map_cons, ih, h.1]
theorem KT.vals {H : Hp} {kvs : List (List Key × V)} {prs : List (List Key × Addr × Value)} (r : KT H kvs prs) : Vals (kvs.map (·.2)) (prs.map fun x => x.2.2) := by
  induction r with
  | nil => exact .nil
  | cons h t ih => exact .cons h.2.2 ih
/-- the hash of a key of ints -/
def hsh (w : World) (k : List Key) : Int := tupleKeyHash (mixKind (default : Program) w) k
theorem call_dictT (hu : X.A.units + 64 < cLine) : CallR X (.type "dict") (fun xs H Q => ∃ (a : Addr) (kvs : List (List Key × V)), xs = [.ref a] ∧ Rd H a (.dT kvs) ∧ (kvs.map fun kv => (tupleKind (mixKind X.prog X.w)).hash kv.1).Nodup ∧ ∀ p, H p = none → Q (.ref p) (upd H p (.dT kvs))) := by
  intro pins s σ H xs us Q I r q
  obtain ⟨a, kvs, ex, hd, hnd, q⟩ := q
  subst ex
  obtain ⟨u, eu, rx⟩ := vals1 r
  subst eu
  cases rx
  obtain ⟨z, lo, prs, rel, dd⟩ := dt_rd I.hok hd
  have hlen : kvs.length = prs.length := Paired.length rel
  obtain ⟨_, _, _, _, _, _, _, his, _⟩ := id dd
  have hk1 := KT.hashes (P := X.prog) (w := X.w) rel
  refine call_dictH (knd := tupleKind (mixKind X.prog X.w)) (show X.A.in1.in1.units < cLine by show X.A.units + 1 + 1 < cLine; omega) lo dd (fun h' hk x hx => tupleKind_stays.stays (fun b o' vs m e q => hk b o' e) (his x hx)) (fun x hx => tupleKind_stays.tuple (his x hx)) (by rw [hk1]; exact hnd) (by rw [← hlen]; exact z) fun h' d' hs => ?_
  have hm : (s.heap.objs.size == sysModules) = false := beq_eq_false_iff_ne.mpr (Nat.ne_of_gt I.big)
  have fr : H s.heap.objs.size = none := I.hok.fresh (Nat.le_refl _)
  obtain ⟨o', es, ep, g1, g2, g3, g4, _, g6⟩ := d'
  refine ⟨.ref s.heap.objs.size, upd H s.heap.objs.size (.dT kvs), I.laid (t' := s.toks) (fun b u e => (hs.2 b (Nat.ne_of_lt (Heap.lt_size e))).trans (Heap.get?_push_of_some _ e)) (Nat.le_refl _)
    (show ObjOk X.prog X.w _ _ _ (.dT kvs) from ⟨z, hm, prs, KT.keeps rel (fun b ys e => ?_), o', es, ep, g1, g2, g3, g4, g6⟩), rfl, q _ fr⟩
  have : b ≠ s.heap.objs.size := fun z => by
    rw [z, fr] at e
    cases e
  rw [upd_ne this]
  exact e
/-! ### d.values() of a dict whose keys are tuples, as a list -/
def valuesO (p d : Addr) : HO := .ext fun h => h.IsValuesView p d
theorem valuesO_ok {P : Program} {w : World} {H : Hp} {h : Heap} {p d : Addr} (e : h.get? p = some { cls := .type "dict_values", data := .fields #[.ref d] }) : ObjOk P w H h p (valuesO p d) :=
  ⟨⟨_, e, rfl, rfl⟩, ⟨_, e⟩, fun h1 h2 x k => let ⟨o, ho, r⟩ := x; ⟨o, k o ho, r⟩⟩
theorem meetsValues {P : Program} {w : World} {d : Addr} {es : Array DictEntry} {ep : Nat} (hd : (d == sysModules) = false) :
    MeetsIn P w (Builtin.«dict.values» ⟨[.ref d], []⟩) (fun _ R s => DT.Raw s.heap d es ep ∧
      R (.ok (.ret (.ref s.heap.objs.size))) { s with heap := s.heap.push { cls := .type "dict_values", data := .fields #[.ref d] } }) :=
  .of_wp fun A R s ⟨hm, h⟩ => by
    unfold Builtin.«dict.values»
    refine wpAny_bind ?_
    unfold Builtin.Dict.noArgs
    refine wpAny_bind (wpAny_notOrdered_dict hm.typeIs ?_)
    show wpAny _ _ (pure d) _ _ s
    refine wpAny_pure ?_
    show wpAny _ _ (Builtin.Dict.showsAll d >>= _) _ _ s
    unfold Builtin.Dict.showsAll
    rw [if_neg (by rw [hd]; exact Bool.false_ne_true)]
    refine wpAny_bind (wpAny_pure ?_)
    exact wpAny_bind (wpAny_newObj_type (wpAny_pure ⟨_, rfl, h⟩))
theorem callValues {P : Program} {w : World} {A : Around} {E : Value → Shared → Prop} {s : Shared} {d : Addr} {es : Array DictEntry} {ep : Nat} {Q : Value → Shared → Prop} (hd : (d == sysModules) = false) (hm : DT.Raw s.heap d es ep)
    (h : Q (.ref s.heap.objs.size) { s with heap := s.heap.push { cls := .type "dict_values", data := .fields #[.ref d] } }) : wpAny (model P w) A (call (.builtin "dict.values") [.ref d]) Q E s :=
  call_meetsIn PySem.F.slot_dict_values hm.typeIs PySem.F.entry_dict_values (PySem.F.args_dict_values_1 _) (meetsValues (es := es) (ep := ep) hd) ⟨hm, h⟩
def rValuesT : V → List V → Hp → VK → Prop := fun x xs H Q => ∃ (a : Addr) (kvs : List (List L2.Key × V)), x = .ref a ∧ xs = [] ∧ H a = some (.dT kvs) ∧ ∀ p, H p = none → Q (.ref p) (upd H p (valuesO p a))
theorem mt_valuesT : MtR X "dict.values" rValuesT := by
  intro pins s σ H x xs v us Q I rx rxs h
  obtain ⟨a, kvs, rfl, rfl, ha, q⟩ := h
  cases rx
  cases rxs
  obtain ⟨z, hd, xs', rel, o, es, ep, ho, hx, hdat, _⟩ := dt_of I.hok ha
  refine callValues (es := es) (ep := ep) hd ⟨o, ho, hx, hdat⟩ ?_
  have hf : H s.heap.objs.size = none := I.hok.fresh (Nat.le_refl _)
  exact ⟨.ref s.heap.objs.size, upd H s.heap.objs.size (valuesO s.heap.objs.size a), I.laid (t' := s.toks) (fun b u e => Heap.get?_push_of_some _ e) (Nat.le_refl _) (valuesO_ok (Heap.get?_push_size _ rfl)), rfl, q _ hf⟩
theorem call_listVals (hc : X.calm = true) : CallR X (.type "list") (fun xs H Q => ∃ (p a : Addr) (kvs : List (List L2.Key × V)), xs = [.ref p] ∧ H p = some (valuesO p a) ∧ H a = some (.dT kvs) ∧ ∀ l, H l = none → Q (.ref l) (upd H l (.lst (kvs.map (·.2))))) := by
  intro pins s σ H xs us Q I r h
  obtain ⟨p, a, kvs, rfl, hp, ha, q⟩ := h
  obtain ⟨u, rfl, rx⟩ := r.one
  cases rx
  have view : s.heap.IsValuesView p a := (show ObjOk X.prog X.w H s.heap p (valuesO p a) from I.hok p _ hp).1
  obtain ⟨z, hs, ks, pr, o, es, ep, ho, hx, hdt, he, hn⟩ := (show ObjOk X.prog X.w H s.heap a (.dT kvs) from I.hok a _ ha)
  have l1 : es.size = ks.length := size_of_entries he
  have l2 : kvs.length = ks.length := Paired.length pr
  refine PySem.W.kdl_call (KdlSrc.rawValues) (I.ok.hd hc) ⟨view, ⟨o, ho, hx, hdt⟩⟩ (by omega) fun h' tk acc' c' kp e it => ?_
  have ea : acc'.toList = ks.map fun x => x.2.2 := by
    have hl : acc'.toList.length = ks.length := by rw [Array.length_toList, it.1]; exact l1
    apply List.ext_getElem?
    intro j
    rw [List.getElem?_map]
    cases hj : acc'.toList[j]? with
    | none =>
      have h1 := List.getElem?_eq_none_iff.mp hj
      rw [List.getElem?_eq_none (by omega)]
      all_goals rfl
    | some v =>
      obtain ⟨hi, hv⟩ := it.2 j v (by rw [← Array.getElem?_toList]; exact hj)
      have qe := entry_at he j
      rw [Array.getElem?_eq_getElem hi] at qe
      cases hb : ks[j]? with
      | none =>
        rw [hb] at qe
        exact nomatch (show some es[j] = none from qe)
      | some b =>
        rw [hb] at qe
        have e2 : es[j] = entryOfKey (tupleKind (mixKind X.prog X.w)) b := Option.some.inj qe
        rw [hv, e2]
        all_goals rfl
  have rv : Vals (kvs.map (·.2)) acc'.toList := by
    rw [ea]
    exact KT.vals pr
  refine ⟨.ref s.heap.objs.size, _, I.laid (t' := tk) (o := .lst (kvs.map (·.2))) kp (Nat.le_refl _) ?_, rfl, q _ (I.hok.fresh (Nat.le_refl _))⟩
  exact ⟨by rw [List.length_map]; exact z, acc'.toList, c', rv, by rw [Array.toArray_toList]; exact e⟩
end
end Cut


namespace Cut
open PySem PySem.Spec PyProof.Rows L2 Evl
/-! ### enumerate(a tuple) -/
theorem meets_enumT (l : Addr) (items : Array Value) (n : Nat) (dct : Option Addr) (sl : Array (Option Value)) :
    Meets (Builtin.«enumerate.__new__» ⟨[.type "enumerate", .ref l], []⟩) (fun _ R s => s.heap.get? l = some { cls := .type "tuple", dict := dct, data := .seq items n, slots := sl } ∧
      R (.ok (.ret (.ref (s.heap.push { cls := .type "tuple_iterator", data := .fields #[.ref l, .int 0 0] }).objs.size)))
        { s with heap := (s.heap.push { cls := .type "tuple_iterator", data := .fields #[.ref l, .int 0 0] }).push { cls := .type "enumerate", data := .fields #[.none, .bool false, .ref s.heap.objs.size, rawInt 0, .none, .none] } }) :=
  .of_wp fun prog w A R s h => by
    obtain ⟨hp, g, d, tk, os⟩ := s; obtain ⟨hl, h⟩ := h
    have hsub := sub_enumerate
    have hL : Heap.IsTuple (Shared.heap ⟨hp, g, d, tk, os⟩) l items := ⟨_, hl, rfl, n, rfl⟩
    wp_walk using AutoSeq1.wpAny_loadPart' hl
    refine wpAny_stack_any fun st => wpAny_pure ?_
    split
    · rename_i c _ _ _ _ _
      cases (c == Value.type "enumerate")
      · wp_walk using AutoSeq1.wpAny_loadPart' hl, wpAny_pyIter_tuple hL
        exact ⟨_, rfl, h⟩
      · wp_walk using AutoSeq1.wpAny_loadPart' hl, wpAny_pyIter_tuple hL
        exact ⟨_, rfl, h⟩
    · wp_walk using AutoSeq1.wpAny_loadPart' hl, wpAny_pyIter_tuple hL
      exact ⟨_, rfl, h⟩
theorem call_enumT {P : Program} {w : World} {A : Around} {E : Value → Shared → Prop} {s : Shared} {l : Addr} {items : Array Value} {Q : Value → Shared → Prop} (hL : s.heap.IsTuple l items)
    (h : ∀ h', IsEnum h' (s.heap.objs.size + 1) s.heap.objs.size 0 .none → h'.IsTupleIter s.heap.objs.size l 0 → h'.objs.size = s.heap.objs.size + 2 →
      (∀ b o, s.heap.get? b = some o → h'.get? b = some o) → Q (.ref (s.heap.objs.size + 1)) { s with heap := h' }) :
    wpAny (model P w) A (call (.type "enumerate") [.ref l]) Q E s := by
  obtain ⟨⟨c, dct, dt, sl⟩, hl, hc, n, hd⟩ := hL
  replace hc : c = .type "tuple" := hc
  replace hd : dt = .seq items n := hd
  subst hc hd
  refine callType_new F.called_enumerate (by decide) (F.typeCall_enumerate_1 _) (F.newCall_enumerate_1 _) (fun obj => F.args_object_init_2 obj _) F.entry_enumerate_new
    (meets_enumT l items n dct sl) ⟨hl, ?_⟩
  have hz : (s.heap.push { cls := .type "tuple_iterator", data := .fields #[.ref l, .int 0 0] }).objs.size = s.heap.objs.size + 1 := Heap.size_push ..
  show _ ∧ _
  rw [hz]
  have he : IsEnum ((s.heap.push { cls := .type "tuple_iterator", data := .fields #[.ref l, .int 0 0] }).push
      { cls := .type "enumerate", data := .fields #[.none, .bool false, .ref s.heap.objs.size, rawInt 0, .none, .none] }) (s.heap.objs.size + 1) s.heap.objs.size 0 .none := by
    have := Heap.get?_push_size (s.heap.push { cls := .type "tuple_iterator", data := .fields #[.ref l, .int 0 0] })
      (o := { cls := .type "enumerate", data := .fields #[.none, .bool false, .ref s.heap.objs.size, rawInt 0, .none, .none] }) rfl
    rw [hz] at this; exact this
  refine ⟨⟨_, he, rfl⟩, h _ he ⟨_, Heap.get?_push_of_some _ (Heap.get?_push_size _ rfl), rfl, rfl⟩ (by rw [Heap.size_push, hz]) fun b o x => Heap.get?_push_of_some _ (Heap.get?_push_of_some _ x)⟩
def IteT (K : PySem.W.Frag) (a : Addr) : It :=
  ⟨fun i H => ∃ (xs : List V) (x : V), SqT K H a xs ∧ xs[i]? = some x, fun i H v H' => ∃ T x, v = .ref T ∧ H T = none ∧ H' = upd H T (.tup [.int (i : Nat), x]) ∧ ∀ xs, SqT K H a xs → xs[i]? = some x, fun i H => ∃ xs : List V, SqT K H a xs ∧ xs.length ≤ i⟩
theorem isTup_isTuple {h : Heap} {a : Addr} {its : Array Value} (x : IsTup h a its) : h.IsTuple a its := by
  obtain ⟨o, e4, e5, n', e6⟩ := x
  exact ⟨o, e4, e5, n', e6⟩
theorem turn_enumT {P : Program} {w : World} {K : PySem.W.Frag} {elts : List Expr} {kk : Nat} {tpos : Pos} (a e it : Addr) :
    Turn P w K (.Tuple elts kk tpos) (IteT K a) [e, it] e (fun i h => (∃ old, IsEnum h e it ((i : Nat) : Int) old) ∧ h.IsTupleIter it a i ∧ e ≠ it) where
  mem := by simp
  obj := fun i h st b hb => by
    obtain ⟨⟨old, he⟩, ⟨o, ho, hc, hd⟩, _⟩ := st
    have e' : b = e ∨ b = it := by simpa using hb
    rcases e' with z | z
    · rw [z]; exact ⟨_, he, fun v q => nomatch q⟩
    · rw [z]; exact ⟨o, ho, fun v q => by rw [hd] at q; cases q⟩
  keep := fun i h h' st k => let ⟨⟨old, he⟩, hi, hne⟩ := st; ⟨⟨old, k e (by simp) _ he⟩, hi.at fun o q => k it (by simp) o q, hne⟩
  item := by
    intro X hP hw hK hc i pins s σ H E I hf st hg
    subst hP hw hK
    obtain ⟨⟨old, he⟩, hit, hne⟩ := st
    obtain ⟨xs, x, hq, hx⟩ := hg
    obtain ⟨its, rv, p, hz⟩ := I.tuple hq
    have hT := isTup_isTuple p
    obtain ⟨u, hu, ru⟩ := rv.get hx
    have hel : e < s.heap.objs.size := Heap.lt_size he
    have hil : it < s.heap.objs.size := by obtain ⟨_, q, _⟩ := hit; exact Heap.lt_size q
    have hai : a ≠ it := fun z => by
      obtain ⟨o1, g1, c1, _⟩ := hT
      obtain ⟨o2, g2, c2, _⟩ := hit
      rw [z, g2] at g1
      cases g1
      rw [c2] at c1
      exact absurd c1 (by decide)
    have hae : e ≠ a := fun z => by
      obtain ⟨o1, g1, c1, _⟩ := hT
      rw [← z] at g1
      rw [show s.heap.get? e = some _ from he] at g1
      cases g1
      exact absurd (show Value.type "enumerate" = Value.type "tuple" from c1) (by decide)
    have hilt : i < its.toArray.size := by
      have := (List.getElem?_eq_some_iff.mp hu).1
      rw [List.size_toArray]
      exact this
    refine wpAny_pyNext_enum_itemD (Draws.tuple (A := X.A.in1) (show X.A.in1.handled = none from I.ok.hd hc) it a hai its.toArray) he ⟨hit, hT⟩ hilt hne (by simp [hne, hae]) fun u' h' tk hu' ho hst' hT2' hsz hk => ?_
    have hu2 : u' = u := by
      have h1 : its[i]? = some u' := by simpa using hu'
      rw [hu] at h1
      exact (Option.some.inj h1).symm
    subst hu2
    refine ⟨_, rfl, wpAny_letOwnedTupleGo_enum (s := { s with heap := h', toks := tk + 1 }) ho fun h'' he' sb => ?_⟩
    have hT2 : h''.get? s.heap.objs.size = some { cls := .type "tuple", data := .seq #[.int i tk, u'] } := (sb.2 _ (Nat.ne_of_gt hel)).trans hT2'
    have new : ObjOk X.prog X.w (upd H s.heap.objs.size (.tup [.int (i : Nat), x])) h'' s.heap.objs.size (.tup [.int (i : Nat), x]) :=
      ⟨by show 2 ≤ sizeLine; decide, [.int i tk, u'], .cons ⟨_, rfl⟩ (.cons ru .nil), ⟨_, hT2, rfl, _, rfl⟩⟩
    have I1 : Inv X pins σ (upd H s.heap.objs.size (.tup [.int (i : Nat), x])) { s with heap := h'', toks := tk + 1 } :=
      I.turnedNew (ch := [e, it]) (fun b ob hb q => (sb.2 b (fun z => hb (by simp [z]))).trans (hk b ob (fun z => hb (by simp [z])) (fun z => hb (by simp [z])) q)) hf (Nat.le_refl _) new
    refine ⟨.ref s.heap.objs.size, _, I1, rfl, ⟨_, x, rfl, I.hok.fresh (Nat.le_refl _), rfl, fun ys hy => by rw [I.tuple_inj hy hq]; exact hx⟩, ⟨⟨u', ?_⟩, hst'.1.at fun o q => (sb.2 it (Ne.symm hne)).trans q, hne⟩, fun b hb => ?_⟩
    · have e1 : ((i + 1 : Nat) : Int) = (i : Int) + 1 := by omega
      rw [e1]; exact he'
    · have hb' : b < s.heap.objs.size := by
        have e' : b = e ∨ b = it := by simpa using hb
        rcases e' with z | z
        · rw [z]; exact hel
        · rw [z]; exact hil
      rw [upd_ne (Nat.ne_of_lt hb')]
      exact (hf b hb).1
  done := by
    intro X hP hw hK hc i pins s σ H E I hf st hg
    subst hP hw hK
    obtain ⟨⟨old, he⟩, hit, hne⟩ := st
    obtain ⟨xs, hq, hx⟩ := hg
    obtain ⟨its, rv, p, hz⟩ := I.tuple hq
    have hT := isTup_isTuple p
    obtain ⟨f0, f1, f2, f3, f4, f5⟩ := hf it (by simp)
    have hl := rv.length
    have hh : X.A.handled = none := I.ok.hd hc
    have hxn : its.toArray[i]? = none := by simp; omega
    have hT' : s.TypeIs (.ref e) "enumerate" := ⟨_, he, rfl⟩
    unfold pyNext
    refine wpAny_bind (wpAny_attempt (wpAny_callSpecial?_slot (name := Str.ofString "__next__") hT' F.slot_enumerate_next
      (wpAny_call_entry F.slot_enumerate_next hT' F.entry_enumerate_next ?_ (F.args_enumerate_next_1 _))))
    show wpAny _ _ (field (.ref e) 2 >>= _) _ _ _
    refine wpAny_bind (wpAny_field he rfl (x := .ref it) rfl ?_)
    refine wpAny_bind (wpAny_nextOf_tuple_end (show X.A.in1.handled = none from hh) hit hT hxn fun h' x he' hx' => ?_)
    obtain ⟨o, ho, hc'⟩ := hx'
    refine wpAny_bind (wpAny_isInstance (T := "StopIteration") (b := true) ⟨o, ho, hc'⟩ isSubtype_stop ?_)
    exact wpAny_pure ⟨rfl, I.turned (t' := s.toks) (fun b o hb q => he' b o hb q) f0 f1 f3 f4 f5⟩
  self := fun A i s Q E st h => let ⟨⟨_, he⟩, _⟩ := st; wpAny_pyIter_enum he h
def iEnumT (K : PySem.W.Frag) (ta : TA) : TI := fun σ H R => ta σ H fun vs H1 => ∃ a xs, vs = [.ref a] ∧ SqT K H1 a xs ∧ R (IteT K a) H1
theorem pi_enumT {X : Cx} {e : Expr} {ta : TA} {p pos tpos : Pos} {elts : List Expr} {kk : Nat} (hg : Gl X "enumerate") (hm : X.mg "enumerate" = none) (ha : PA X [e] ta) (hs : starEach [e] X.env = [(false, eval e X.env)] := by rfl) :
    PI X (.Tuple elts kk tpos) (.Call (.Name "enumerate" p) [e] [] pos) (iEnumT X.K ta) := by
  refine ⟨fun pins s σ H R I h => ?_⟩
  refine Call_ (ld_blt I hg hm boot_enumerate (PyProof.Rows.callWith_type1 (thn (ha.run pos pins s σ H _ I h) fun us s1 ⟨vs, H1, I1, r1, q1⟩ => ?_) hs rfl))
  obtain ⟨a, xs, ex, hq, q⟩ := q1
  subst ex
  cases r1 with
  | cons r rr =>
    cases rr
    cases r
    obtain ⟨its, rv, p', hz⟩ := I1.tuple hq
    refine call_enumT (isTup_isTuple p') fun h' he hit hsz hk => wpAny_pyIter_enum he ?_
    have I2 : Inv X pins σ H1 { s1 with heap := h' } := I1.kept (t' := s1.toks) hk
    refine ⟨s1.heap.objs.size + 1, [s1.heap.objs.size + 1, s1.heap.objs.size], _, _, H1, rfl, I2, turn_enumT a (s1.heap.objs.size + 1) s1.heap.objs.size, ⟨⟨.none, he⟩, hit, Nat.succ_ne_self _⟩, fun b hb => ?_, q⟩
    have e' : b = s1.heap.objs.size + 1 ∨ b = s1.heap.objs.size := by simpa using hb
    have hle : s1.heap.objs.size ≤ b := by
      rcases e' with z | z
      · rw [z]; exact Nat.le_add_right _ _
      · rw [z]; exact Nat.le_refl _
    exact I1.fpOk hle (I1.hok.fresh hle)
theorem walk_enumT {K : PySem.W.Frag} {a : Addr} {xs : List V} : Walk (IteT K a) xs.length (fun H => SqT K H a xs) (YPair (fun i => some (.int (i : Nat))) (fun i => xs[i]?)) := by
  refine ⟨fun i _ hi q => ⟨xs, xs[i], q, by simp [hi]⟩, fun _ q => ⟨xs, q, Nat.le_refl _⟩, fun i H v H' _ q y => ?_⟩
  obtain ⟨T, x, h1, h2, h3, h4⟩ := y
  exact ⟨T, .int (i : Nat), x, h1, h2, h3, rfl, h4 xs q⟩
end Cut


namespace Cut
open PySem PySem.Spec PyProof.Rows L2 Evl
section
variable {X : Cx} {σ : L2.St} {H : Hp} {pos : Pos}
theorem gw_seq {gs : List Expr} {k n : Nat} {p : Addr} {xs : List V} {Q : L2.St → Hp → Prop} (h : Sq X.K H p xs) (q : GWs X gs xs σ H Q) (hl : xs.length = n := by rfl) (hc : X.calm = true := by rfl) (hn : (assignEach gs X.env).length = n := by rfl) (hst : (assignEach gs X.env).findIdx? (·.1) = none := by rfl) : GW X (.Tuple gs k pos) (.ref p) σ H Q := by
  rcases h with h | h
  · exact gw_of (pg_unl hc pgs_w hn hst) ⟨p, xs, rfl, h, hl, q⟩
  · exact gw_tup h q hl hc hn hst
theorem gv_seq3 {g1 g2 g3 : Expr} {k : Nat} {p : Addr} {a b c : V} {σ1 σ2 σ3 : L2.St} (h : Sq X.K H p [a, b, c]) (h1 : GV X g1 a σ H σ1) (h2 : GV X g2 b σ1 H σ2) (h3 : GV X g3 c σ2 H σ3) (hc : X.calm = true := by rfl) (hn : (assignEach [g1, g2, g3] X.env).length = 3 := by rfl) (hst : (assignEach [g1, g2, g3] X.env).findIdx? (·.1) = none := by rfl)
    (hs1 : (assignEach [g1, g2, g3] X.env).map (·.2) = assign g1 X.env :: (assignEach [g2, g3] X.env).map (·.2) := by rfl) (hs2 : (assignEach [g2, g3] X.env).map (·.2) = assign g2 X.env :: (assignEach [g3] X.env).map (·.2) := by rfl) (hs3 : (assignEach [g3] X.env).map (·.2) = assign g3 X.env :: (assignEach [] X.env).map (·.2) := by rfl) : GV X (.Tuple [g1, g2, g3] k pos) (.ref p) σ H σ3 :=
  fun H1 e1 Q q => gw_seq (n := 3) (h.mono e1) (gws_cons (h1 H1 e1 _ fun H2 e2 => gws_cons (h2 H2 (e1.trans e2) _ fun H3 e3 => gws_cons (h3 H3 ((e1.trans e2).trans e3) _ fun H4 e4 => gws_nil (q H4 ((e2.trans e3).trans e4))) hs3) hs2) hs1) rfl hc hn hst
theorem ev_ixSn {a b : Expr} {i : Int} {p : Addr} {xs : List V} {v : V} (j : Nat) (ha : EV X a σ H (.ref p)) (hb : EV X b σ H (.int i)) (h : Sq X.K H p xs) (hv : xs[j]? = some v) (hi : i = (j : Int) := by omega) (hs : PlainIx b := by exact fun _ _ => rfl) : EV X (.Subscript a b pos) σ H v := by
  rcases h with h | h
  · exact ev_ixLn j ha hb h hv hi hs
  · exact ev_ixTn j ha hb h hv hi hs
/-- a comprehension over a list or tuple that stands -/
theorem lc_seq {scope : Scope} {elt tg iter : Expr} {Q : VK} {α : Type} {l : List α} {pf : α → Bool} {R : α → V → Hp → Prop} {vs : List Nat} {Fx : α → V → Hp → Prop} {sg : α → V → L2.St} {tt : TT} {p : Addr} {xs : List V} (h : EV X iter σ H (.ref p)) (hx : Sq X.K H p xs) (hl : l.length = xs.length) (hz : xs.length ≤ 40000)
    (hy : ∀ (i : Nat) a x H2, l[i]? = some a → xs[i]? = some x → Ex H H2 → Fx a x H2) (hF : ∀ a x H1 H2, Fx a x H1 → Ex H1 H2 → Fx a x H2)
    (hg : ∀ a ∈ l, ∀ x H2, Ex H H2 → Fx a x H2 → ∀ s0 H0 C cl fp, GV (Bk X scope s0 H0 C cl fp) tg x (wipe σ vs) H2 (sg a x)) (hw : ∀ a x, wipe (sg a x) vs = wipe σ vs)
    (ht : ∀ a ∈ l, ∀ x H2, Ex H H2 → Fx a x H2 → Evl.EvT tt (sg a x) H2 (pf a))
    (he : ∀ a ∈ l, pf a = true → ∀ x H2, Ex H H2 → Fx a x H2 → ∀ s0 H0 C cl fp, EX (EW (Bk X scope s0 H0 C cl fp) elt) (sg a x) H2 (R a)) (hR : ∀ a y H1 H2, R a y H1 → Kt H1 H2 → R a y H2)
    (hd : ∀ p ys H', H p = none → Ex H H' → H' p = some (.lst ys) → AllR R (l.filter pf) ys H' → Q (.ref p) H') : tLc (IW X tg iter) (GB X scope tg) tt (EB X scope elt) vs σ H Q := by
  rcases hx with hx | hx
  · exact lc_of (iw_L (EVgo h fun H1 e1 => ⟨p, rfl, ⟨_, Evl.ex_l e1 hx⟩, lc_goX (l := l) (pf := pf) (n := xs.length) (G := fun H => SqL X.K H p xs) (Y := YAt xs) (Fx := Fx) (R := R) (sg := sg) walk_list (fun H2 e2 => Evl.ex_l (e1.trans e2) hx) hl hz (fun i a x H2 H3 ha e2 ⟨e, hx⟩ => by
      subst e
      exact ⟨Ex.refl _, hy i a x _ ha hx (e1.trans e2)⟩) hF (fun a ha x H2 e2 => hg a ha x H2 (e1.trans e2)) hw (fun a ha x H2 e2 => ht a ha x H2 (e1.trans e2)) (fun a ha hp x H2 e2 => he a ha hp x H2 (e1.trans e2)) hR (fun d ys H' hd0 e2 h1 h2 => hd d ys H' (Evl.fresh_back e1 hd0) (e1.trans e2) h1 h2)⟩))
  · exact lc_of (iw_T (EVgo h fun H1 e1 => ⟨p, rfl, ⟨_, Evl.ex_t e1 hx⟩, lc_goX (l := l) (pf := pf) (n := xs.length) (G := fun H => SqT X.K H p xs) (Y := YAt xs) (Fx := Fx) (R := R) (sg := sg) walk_tup (fun H2 e2 => Evl.ex_t (e1.trans e2) hx) hl hz (fun i a x H2 H3 ha e2 ⟨e, hx⟩ => by
      subst e
      exact ⟨Ex.refl _, hy i a x _ ha hx (e1.trans e2)⟩) hF (fun a ha x H2 e2 => hg a ha x H2 (e1.trans e2)) hw (fun a ha x H2 e2 => ht a ha x H2 (e1.trans e2)) (fun a ha hp x H2 e2 => he a ha hp x H2 (e1.trans e2)) hR (fun d ys H' hd0 e2 h1 h2 => hd d ys H' (Evl.fresh_back e1 hd0) (e1.trans e2) h1 h2)⟩))
/-- for at, thing in enumerate(a list or tuple) -/
theorem sw_forE {e : Expr} {p tpos pos' : Pos} {elts : List Expr} {kk : Nat} {sts : List Stmt} {D : Ends} {a : Addr} {xs : List V} (hp : PassesOwn (model X.prog X.w) X.A X.env X.xe) (hm : X.mg "enumerate" = none) (h : EV X e σ H (.ref a)) {H0 : Hp} (hx : Sq X.K H0 a xs) (h00 : Ex H0 H) (Pv : Nat → L2.St → Hp → Prop) (h0 : ∀ H1, Ex H H1 → Pv 0 σ H1) (hl : ∀ i σ' H', Pv i σ' H' → Ex H0 H')
    (hs : ∀ (i : Nat) x σ' H' T, xs[i]? = some x → Pv i σ' H' → H' T = none → GW X (.Tuple elts kk tpos) (.ref T) σ' (upd H' T (.tup [.int (i : Nat), x])) fun σ2 H2 => BW X sts { D with nx := Pv (i + 1), ct := Pv (i + 1), bk := D.nx } σ2 H2) (hd : ∀ σ' H', Pv xs.length σ' H' → D.nx σ' H') (hg : Gl X "enumerate" := by rfl) (hc : X.calm = true := by rfl) (hst : starEach [e] X.env = [(false, eval e X.env)] := by rfl)
    (hf : ∀ x, foldedSetIterable (.Call (.Name "enumerate" p) [e] [] pos') X.env x = pure x := by intro _; rfl) : SW X (.For (.Tuple elts kk tpos) (.Call (.Name "enumerate" p) [e] [] pos') sts [] pos) D σ H := by
  rcases hx with hx | hx
  · exact sw_for hp (iw_of (pi_enum hg hm pa_w hst) (AVgo (av_cons h av_nil hst) fun H1 e1 => ⟨a, xs, rfl, Evl.ex_l (h00.trans e1) hx, for_it walk_enum Pv (h0 H1 e1) (fun i σ' H' _ p => Evl.ex_l (hl i σ' H' p) hx) (fun i x σ' H' H2 hi p y => by
      obtain ⟨T, u, v, rfl, hT, rfl, e1, e2⟩ := y
      cases e1
      exact hs i v σ' H' T e2 p hT) hd⟩)) hc hf
  · exact sw_for hp (iw_of (pi_enumT hg hm pa_w hst) (AVgo (av_cons h av_nil hst) fun H1 e1 => ⟨a, xs, rfl, Evl.ex_t (h00.trans e1) hx, for_it walk_enumT Pv (h0 H1 e1) (fun i σ' H' _ p => Evl.ex_t (hl i σ' H' p) hx) (fun i x σ' H' H2 hi p y => by
      obtain ⟨T, u, v, rfl, hT, rfl, e1, e2⟩ := y
      cases e1
      exact hs i v σ' H' T e2 p hT) hd⟩)) hc hf
end
/-- ties as they are handed in -/
def TieR (K : PySem.W.Frag) (t : RwA) (y : V) (H : Hp) : Prop := ∃ q, y = .ref q ∧ Sq K H q [iV t.1.1, iV t.1.2.1, .ref t.2] ∧ Sq K H t.2 [.int (loA t.1.2.2 : Nat), .int (loB t.1.2.2 : Nat)]
theorem TieR.mono {K : PySem.W.Frag} {t : RwA} {y : V} {H H' : Hp} (h : TieR K t y H) (e : Ex H H') : TieR K t y H' := by
  obtain ⟨q, h1, h2, h3⟩ := h
  exact ⟨q, h1, h2.mono e, h3.mono e⟩
def TiS (K : PySem.W.Frag) (H : Hp) (x : V) (rs : List RwA) : Prop := ∃ p ys, x = .ref p ∧ Sq K H p ys ∧ AllR (TieR K) rs ys H
theorem TiS.mono {K : PySem.W.Frag} {H H' : Hp} {x : V} {rs : List RwA} (h : TiS K H x rs) (e : Ex H H') : TiS K H' x rs := by
  obtain ⟨p, ys, h1, h2, h3⟩ := h
  exact ⟨p, ys, h1, h2.mono e, h3.imp fun a y r => r.mono e⟩
structure TieOk (n : Nat) (rows : List Rw) : Prop where
  ok : ∀ t ∈ rows, t.1 < t.2.1 ∧ t.2.1 < n ∧ loA t.2.2 ≤ 1000000000000
  nd : (rows.map fun t => (t.1, t.2.1)).Nodup
theorem TieOk.len {n : Nat} {rows : List Rw} (h : TieOk n rows) (hn : n ≤ 7) : rows.length ≤ 49 := by
  have h1 : (rows.map fun t => t.1 * n + t.2.1).Nodup := by
    have h0 := List.pairwise_map.mp h.nd
    refine List.pairwise_map.mpr (h0.imp_of_mem fun {a b} ha hb z e => z ?_)
    have a2 := (h.ok a ha).2.1
    have b2 := (h.ok b hb).2.1
    obtain ⟨e1, e2⟩ := code_inj a2 b2 e
    rw [e1, e2]
  have h2 := nodup_lt (n * n) _ h1 fun x hx => by
    obtain ⟨t, ht, rfl⟩ := List.mem_map.mp hx
    obtain ⟨a1, a2, _⟩ := h.ok t ht
    exact code_lt (by omega) a2
  rw [List.length_map] at h2
  exact Nat.le_trans h2 (Nat.mul_le_mul hn hn)
section
variable {P : Program} {w : World} {K : PySem.W.Frag} {mg : Str → Option Value} {base : Heap} {CR CW CN CH : Addr}
def spPlaces : Sp := spV fun vs _ v => ∃ n i j : Nat, vs = [.int (n : Int), .int (i : Int), .int (j : Int)] ∧ i < n ∧ j < n ∧ i ≠ j ∧ v = .bl true
theorem wh_bl {n t : Nat} (h : t < n) : V.bl (decide ((0 : Int) ≤ (t : Int)) && decide ((t : Int) ≤ (n : Int) - 1)) = .bl true := by
  rw [decide_eq_true (show (0 : Int) ≤ (t : Int) by omega), decide_eq_true (show (t : Int) ≤ (n : Int) - 1 by omega)]
  rfl
/-! are_places: slots 0 many, 1 i, 2 j -/
theorem sc_are_places : FnScope ["many", "i", "j"] ["many", "i", "j"] (defScope s_are_places) := ⟨rfl, rfl, rfl, by decide +kernel, rfl, by decide +kernel, by decide +kernel⟩
theorem ok_are_places (T : Tops K mg CR CW CN CH) (hwh : Has P w K mg base 1 "is_whole" ["thing", "least", "most"] spWhole) : Has P w K mg base 2 "are_places" ["many", "i", "j"] spPlaces := by
  refine has_of (k := 1) T.are_places sc_are_places (fun _ _ _ _ _ _ us hl => match us, hl with | [_, _, _], _ => rfl) (fun vs H Q E h => by
    obtain ⟨_, ⟨n, i, j, rfl, _⟩, _⟩ := h
    rfl) ?_
  intro f cdv A outer s H0 H vs Q E E0 hr h
  obtain ⟨v, ⟨n, i, j, rfl, hi, hj, hij, rfl⟩, q⟩ := h
  refine bw_one (sw_ret (EVgo (ev_is (w := .bl true) (ev_and (k := true) (l := true) (ev_is (ev_call hwh hr (av_cons (ev_name 1) (av_cons ev_int (av_cons (ev_sub (ev_name 0) ev_int) av_nil))) (fun H1 e1 => ⟨_, _, _, rfl, rfl⟩)) (wh_bl hi)) fun _ => ev_is (w := .bl true) (ev_and (k := true) (l := true) (ev_is (ev_call hwh hr (av_cons (ev_name 2) (av_cons ev_int (av_cons (ev_sub (ev_name 0) ev_int) av_nil))) (fun H1 e1 => ⟨_, _, _, rfl, rfl⟩)) (wh_bl hj)) fun _ => ev_one (ev_is (ev_ne (ev_name 1) (ev_name 2)) (by
    rw [decide_eq_false fun z => hij (by have := V.int.inj z; omega)]
    rfl))) rfl) rfl) fun H1 e1 => q H1 e1))
def spIsTie (K : PySem.W.Frag) : Sp := spV fun vs H v => ∃ x y, vs = [x, y] ∧ ∃ (n : Nat) (t : RwA), x = .int (n : Int) ∧ TieR K t y H ∧ t.1.1 < t.1.2.1 ∧ t.1.2.1 < n ∧ loA t.1.2.2 ≤ 1000000000000 ∧ v = .bl true
/-! is_tie: slots 0 many, 1 thing -/
theorem sc_is_tie : FnScope ["many", "thing"] ["many", "thing"] (defScope s_is_tie) := ⟨rfl, rfl, rfl, by decide +kernel, rfl, by decide +kernel, by decide +kernel⟩
theorem ok_is_tie (T : Tops K mg CR CW CN CH) (hrow : Has P w K mg base 1 "is_row" ["thing"] (spRow K)) (hpl : Has P w K mg base 2 "are_places" ["many", "i", "j"] spPlaces) (hwt : Has P w K mg base 3 "is_weight" ["thing"] (spIsWt K)) : Has P w K mg base 4 "is_tie" ["many", "thing"] (spIsTie K) := by
  refine has_of (k := 3) T.is_tie sc_is_tie (fun _ _ _ _ _ _ us hl => match us, hl with | [_, _], _ => rfl) (fun vs H Q E h => by
    obtain ⟨_, ⟨x, y, rfl, _⟩, _⟩ := h
    rfl) ?_
  intro f cdv A outer s H0 H vs Q E E0 hr h
  obtain ⟨v, ⟨x, y, rfl, n, ⟨⟨i, j, m⟩, a⟩, rfl, ⟨p, rfl, hp, ha⟩, h1, h2, h3, rfl⟩, q⟩ := h
  replace h1 : i < j := h1
  replace h2 : j < n := h2
  replace h3 : loA m ≤ 1000000000000 := h3
  replace ha : Sq K H a [.int (loA m : Nat), .int (loB m : Nat)] := ha
  have ix0 : ∀ {H1 : Hp} {pos p1 p2 : Pos} {jj : Nat}, Ex H H1 → EV (CxD P w K mg base ["many", "thing"] "is_tie" s_is_tie f cdv A outer s H0 E0) (.Subscript (.Name "thing" p1) (.Constant (.int 0) jj p2) pos) [some (.int (n : Int)), some (.ref p)] H1 (iV i) := fun e => ev_ixSn 0 (ev_name 1) ev_int (hp.mono e) rfl
  have ix1 : ∀ {H1 : Hp} {pos p1 p2 : Pos} {jj : Nat}, Ex H H1 → EV (CxD P w K mg base ["many", "thing"] "is_tie" s_is_tie f cdv A outer s H0 E0) (.Subscript (.Name "thing" p1) (.Constant (.int 1) jj p2) pos) [some (.int (n : Int)), some (.ref p)] H1 (iV j) := fun e => ev_ixSn 1 (ev_name 1) ev_int (hp.mono e) rfl
  have ix2 : ∀ {H1 : Hp} {pos p1 p2 : Pos} {jj : Nat}, Ex H H1 → EV (CxD P w K mg base ["many", "thing"] "is_tie" s_is_tie f cdv A outer s H0 E0) (.Subscript (.Name "thing" p1) (.Constant (.int 2) jj p2) pos) [some (.int (n : Int)), some (.ref p)] H1 (.ref a) := fun e => ev_ixSn 2 (ev_name 1) ev_int (hp.mono e) rfl
  refine bw_cons (sw_ifF (tv_is (tv_bool (wv_or (k := false) (tv_is (tv_not (tv_val (ev_call hrow hr (av_cons (ev_name 1) av_nil) (fun H1 e1 => ⟨_, rfl, .inl ⟨p, _, rfl, hp.mono e1, rfl⟩⟩)))) rfl) fun _ => wv_or (k := false) (tv_is (tv_ne (ev_len T.b.b_len (ev_name 1) hp) ev_int) rfl) fun _ => wv_one_or (tv_is (tv_not (tv_val (ev_call hpl hr (av_cons (ev_name 0) (av_cons (ix0 (Ex.refl _)) (av_cons (ix1 (Ex.refl _)) av_nil))) (fun H1 e1 => ⟨n, i, j, rfl, by omega, h2, by omega, rfl⟩)))) rfl))) rfl) fun H1 e1 => bw_nil ?_)
  refine bw_one (sw_ret (EVgo (ev_is (w := .bl true) (ev_and (k := true) (l := true) (ev_is (ev_lt (ix0 e1) (ix1 e1)) (by rw [decide_eq_true (show (i : Int) < (j : Int) by omega)])) fun _ => ev_one (ev_call hwt hr (av_cons (ix2 e1) av_nil) (fun H2 e2 => ⟨_, rfl, m, ⟨a, rfl, (ha.mono e1).mono e2⟩, h3, rfl⟩))) rfl) fun H2 e2 => q H2 (e1.trans e2)))
def spWrong (K : PySem.W.Frag) : Sp := spV fun vs H v => ∃ x y, vs = [x, y] ∧ ∃ (n : Nat) (rs : List RwA), x = .int (n : Int) ∧ n ≤ 7 ∧ TiS K H y rs ∧ TieOk n (rs.map Prod.fst) ∧ v = .non
/-! wrong_tie: slots 0 many, 1 ties, 2 known, 3 at, 4 thing -/
theorem sc_wrong_tie : FnScope ["many", "ties", "known", "at", "thing"] ["many", "ties"] (defScope s_wrong_tie) := ⟨rfl, rfl, rfl, by decide +kernel, rfl, by decide +kernel, by decide +kernel⟩
theorem ok_wrong_tie (T : Tops K mg CR CW CN CH) (hrow : Has P w K mg base 1 "is_row" ["thing"] (spRow K)) (hti : Has P w K mg base 4 "is_tie" ["many", "thing"] (spIsTie K)) : Has P w K mg base 5 "wrong_tie" ["many", "ties"] (spWrong K) := by
  refine has_of (k := 4) T.wrong_tie sc_wrong_tie (fun _ _ _ _ _ _ us hl => match us, hl with | [_, _], _ => rfl) (fun vs H Q E h => by
    obtain ⟨_, ⟨x, y, rfl, _⟩, _⟩ := h
    rfl) ?_
  intro f cdv A outer s H0 H vs Q E E0 hr h
  obtain ⟨v, ⟨x, y, rfl, n, rs, rfl, hn7, ⟨fp, ys, rfl, hys, hall⟩, ok, rfl⟩, q⟩ := h
  have nd := (sc_wrong_tie).nd
  have hu := hu_of hr
  refine bw_cons (sw_ifF (tv_not (tv_val (ev_call hrow hr (av_cons (ev_name 1) av_nil) (fun H1 e1 => ⟨_, rfl, .inl ⟨fp, _, rfl, hys.mono e1, rfl⟩⟩)))) fun H1 e1 => bw_nil ?_)
  refine bw_cons (sw_set 2 (ew_of pe_dnewT fun kd hkd => ?_))
  have fkd : H kd = none := Evl.fresh_back e1 hkd
  have e02 : Ex H (upd H1 kd (.dT [])) := e1.trans (Ex.new hkd)
  refine bw_cons (sw_forE PassesOwn.never T.b.b_enumerate (a := fp) (xs := ys) (ev_name 1) hys e02 (fun k σ' H' => ∃ (z z' : Option V) (kvs : List (List Key × V)) (g : Nat → Nat → Option V), σ' = [some (.int (n : Int)), some (.ref fp), some (.ref kd), z, z'] ∧ Ex H H' ∧ H' kd = some (.dT kvs) ∧ Pd n kvs g ∧ ∀ i j, g i j ≠ none → ∃ (k' : Nat) (t : RwA), k' < k ∧ rs[k']? = some t ∧ t.1.1 = i ∧ t.1.2.1 = j) ?_ (fun i σ' H' ⟨_, _, _, _, _, e, _⟩ => e) ?_ ?_)
  · intro H2 e2
    exact ⟨_, _, [], fun _ _ => none, rfl, e02.trans e2, e2 _ _ upd_same, Pd.nil n, fun i j h => absurd rfl h⟩
  · rintro k x σ' H' tt hk ⟨z, z', kvs, g, rfl, e3, hkd3, hpd, hg⟩ hT
    obtain ⟨t, ht⟩ : ∃ t, rs[k]? = some t := by
      have := (List.getElem?_eq_some_iff.mp hk).1
      rw [hall.1] at this
      exact ⟨_, List.getElem?_eq_getElem this⟩
    have eT : Ex H' (upd H' tt (.tup [.int (k : Nat), x])) := Ex.new hT
    have hR := (hall.2 k t x ht hk).mono (e3.trans eT)
    have htt : (upd H' tt (.tup [.int (k : Nat), x])) tt = some (.tup [.int (k : Nat), x]) := upd_same
    generalize upd H' tt (.tup [.int (k : Nat), x]) = H2 at eT hR htt
    have hmem : t.1 ∈ rs.map Prod.fst := List.mem_map_of_mem (List.mem_of_getElem? ht)
    obtain ⟨h1, h2, h3⟩ := ok.ok _ hmem
    obtain ⟨p, rfl, hp, ha⟩ := id hR
    have hin : t.1.1 < n := by omega
    have gij : g t.1.1 t.1.2.1 = none := by
      cases e : g t.1.1 t.1.2.1 with
      | none => rfl
      | some v =>
        obtain ⟨k', t', hk', ht', e1, e2⟩ := hg _ _ (by rw [e]; exact fun z => by cases z)
        have h0 := List.pairwise_iff_getElem.mp (List.pairwise_map.mp (List.pairwise_map.mp ok.nd)) k' k (List.getElem?_eq_some_iff.mp ht').1 (List.getElem?_eq_some_iff.mp ht).1 hk'
        rw [(List.getElem?_eq_some_iff.mp ht').2, (List.getElem?_eq_some_iff.mp ht).2] at h0
        exact absurd (show (t'.1.1, t'.1.2.1) = (t.1.1, t.1.2.1) by rw [e1, e2]) h0
    have ix0 : ∀ {H1 : Hp} {pos p1 p2 : Pos} {jj : Nat}, Ex H2 H1 → EV (CxD P w K mg base ["many", "ties", "known", "at", "thing"] "wrong_tie" s_wrong_tie f cdv A outer s H0 E0) (.Subscript (.Name "thing" p1) (.Constant (.int 0) jj p2) pos) [some (.int (n : Int)), some (.ref fp), some (.ref kd), some (.int (k : Nat)), some (.ref p)] H1 (iV t.1.1) := fun e => ev_ixSn 0 (ev_name 4) ev_int (hp.mono e) rfl
    have ix1 : ∀ {H1 : Hp} {pos p1 p2 : Pos} {jj : Nat}, Ex H2 H1 → EV (CxD P w K mg base ["many", "ties", "known", "at", "thing"] "wrong_tie" s_wrong_tie f cdv A outer s H0 E0) (.Subscript (.Name "thing" p1) (.Constant (.int 1) jj p2) pos) [some (.int (n : Int)), some (.ref fp), some (.ref kd), some (.int (k : Nat)), some (.ref p)] H1 (iV t.1.2.1) := fun e => ev_ixSn 1 (ev_name 4) ev_int (hp.mono e) rfl
    refine gw_tup (n := 2) (SqT.of htt) (gws_cons (gw_name 3 (gws_cons (gw_name 4 (gws_nil ?_)))))
    refine bw_cons (sw_ifF (tv_is (tv_bool (wv_or (k := false) (tv_is (tv_not (tv_val (ev_call hti hr (av_cons (ev_name 0) (av_cons (ev_name 4) av_nil)) (fun H1 e1 => ⟨_, _, rfl, n, t, rfl, hR.mono e1, h1, h2, h3, rfl⟩)))) rfl) fun _ => wv_one_or (tv_is (tv_inT (k := kp t.1.1 t.1.2.1) hu (evu_tup (av_cons (ix0 (Ex.refl _)) (av_cons (ix1 (Ex.refl _)) av_nil))) (ev_name 2) (.inl (eT _ _ hkd3))) (by rw [hpd.val, gij]; rfl)))) rfl) fun H4 e4 => bw_nil ?_)
    refine bw_one (sw_dput hu (EVgo ev_bl fun H5 e5 => EVgo (ev_name 2) fun H6 e6 => EUgo (evu_tup (av_cons (ix0 ((e4.trans e5).trans e6)) (av_cons (ix1 ((e4.trans e5).trans e6)) av_nil))) fun kt H7 nkt e7 hkt => ⟨kd, _, rfl, DPut.t (k := kp t.1.1 t.1.2.1) ((eT.trans ((e4.trans e5).trans (e6.trans e7))) _ _ hkd3) hkt (hpd.small (Nat.le_trans hn7 (by decide))), ?_⟩))
    have k1 : Km [kd] H (upd H7 kd (.dT (putK kvs (kp t.1.1 t.1.2.1) (.bl true)))) := (Km.of (e3.trans (eT.trans ((e4.trans e5).trans (e6.trans e7))))).upd (by simp)
    refine ⟨_, _, _, _, rfl, Km.nil ((Km.of (M := []) (Ex.refl H)).drop k1 (by simp [fkd])), upd_same, hpd.put hin h2 (.bl true), fun a b hab => ?_⟩
    by_cases c : a = t.1.1 ∧ b = t.1.2.1
    · exact ⟨k, t, by omega, ht, c.1.symm, c.2.symm⟩
    · rw [if_neg c] at hab
      obtain ⟨k', t', h1, h2⟩ := hg a b hab
      exact ⟨k', t', by omega, h2⟩
  · rintro σ' H' ⟨z, z', kvs, g, rfl, e3, _⟩
    exact bw_one (sw_ret (EVgo ev_non fun H4 e4 => q _ (e3.trans e4)))
/-- pairs of a pair of places and an amount, told by a tuple of tuples -/
def PaR (K : PySem.W.Frag) (t : Rw) (y : V) (H : Hp) : Prop := ∃ q b v, y = .ref q ∧ H q = some (.tup [.ref b, v]) ∧ H b = some (.tup [iV t.1, iV t.2.1]) ∧ Amt K H v t.2.2
theorem PaR.kt {K : PySem.W.Frag} {t : Rw} {y : V} {H H' : Hp} (h : PaR K t y H) (k : Kt H H') : PaR K t y H' := by
  obtain ⟨q, b, v, h1, h2, h3, h4⟩ := h
  exact ⟨q, b, v, h1, k _ _ h2, k _ _ h3, h4.kt k⟩
theorem paR_pairs {H : Hp} : ∀ {rows : List Rw} {ys : List V}, AllR (PaR K) rows ys H → ∃ (pl : List Addr) (kvs : List (List Key × V)), ys = pl.map V.ref ∧ Paired (PrT K H) pl kvs ∧ AllR (fun (t : Rw) (kv : V) _ => True) rows ys H ∧ kvs.length = rows.length ∧ ∀ (k : Nat) (t : Rw) (kv : List Key × V), rows[k]? = some t → kvs[k]? = some kv → kv.1 = kp t.1 t.2.1 ∧ Amt K H kv.2 t.2.2
  | [], [], _ => ⟨[], [], rfl, .nil, AllR.nil, rfl, fun k t kv h => by simp at h⟩
  | [], y :: ys, h => by cases h.1
  | a :: l, [], h => by cases h.1
  | a :: l, y :: ys, h => by
    obtain ⟨q, b, v, e, h1, h2, h3⟩ := h.2 0 a y rfl rfl
    obtain ⟨pl, kvs, e1, h4, h5, h6, h7⟩ := paR_pairs (rows := l) (ys := ys) ⟨Nat.succ.inj h.1, fun k b z h3 h4 => h.2 (k + 1) b z h3 h4⟩
    refine ⟨q :: pl, (kp a.1 a.2.1, v) :: kvs, by rw [e, e1, List.map_cons], .cons ⟨b, SqT.of h1, h2⟩ h4, ⟨h.1, fun _ _ _ _ _ => trivial⟩, by rw [List.length_cons, List.length_cons, h6], fun k t kv hk hkv => ?_⟩
    cases k with
    | zero =>
      have e2 : a = t := Option.some.inj hk
      have e3 : (kp a.1 a.2.1, v) = kv := Option.some.inj hkv
      rw [← e2, ← e3]
      exact ⟨rfl, h3⟩
    | succ k => exact h7 k t kv hk hkv
/-- a dict of amounts -/
def AmD (K : PySem.W.Frag) (H : Hp) (d : Addr) (n : Nat) (rows : List Rw) : Prop := ∃ kvs g, H d = some (.dT kvs) ∧ Pd n kvs g ∧ (∀ i j v, g i j = some v → ∃ m, (i, j, m) ∈ rows ∧ Amt K H v m) ∧ ∀ t ∈ rows, g t.1 t.2.1 ≠ none
theorem AmD.mono {H H' : Hp} {d : Addr} {n : Nat} {rows : List Rw} (h : AmD K H d n rows) (e : Ex H H') : AmD K H' d n rows := by
  obtain ⟨kvs, g, h1, h2, h3, h4⟩ := h
  exact ⟨kvs, g, e _ _ h1, h2, fun i j v hv => let ⟨m, a, b⟩ := h3 i j v hv; ⟨m, a, b.mono e⟩, h4⟩
theorem pd_merge {n : Nat} {H : Hp} {RW : List Rw} : ∀ {rows : List Rw} {more kvs : List (List Key × V)} {g : Nat → Nat → Option V}, Pd n kvs g → (∀ i j v, g i j = some v → ∃ m, (i, j, m) ∈ RW ∧ Amt K H v m) → (∀ t ∈ rows, t ∈ RW ∧ t.1 < n ∧ t.2.1 < n) → more.length = rows.length → (∀ (k : Nat) (t : Rw) (kv : List Key × V), rows[k]? = some t → more[k]? = some kv → kv.1 = kp t.1 t.2.1 ∧ Amt K H kv.2 t.2.2) →
    ∃ g', Pd n (mergeT kvs more) g' ∧ (∀ i j v, g' i j = some v → ∃ m, (i, j, m) ∈ RW ∧ Amt K H v m) ∧ (∀ t ∈ rows, g' t.1 t.2.1 ≠ none) ∧ ∀ i j, g i j ≠ none → g' i j ≠ none
  | [], [], kvs, g, hp, hg, _, _, _ => ⟨g, hp, hg, fun t ht => (by cases ht), fun _ _ h => h⟩
  | [], _ :: _, _, _, _, _, _, h, _ => by cases h
  | _ :: _, [], _, _, _, _, _, h, _ => by cases h
  | t :: l, kv :: r, kvs, g, hp, hg, hin, hlen, hall => by
    obtain ⟨e1, e2⟩ := hall 0 t kv rfl rfl
    obtain ⟨i1, i2, i3⟩ := hin t List.mem_cons_self
    have hp1 := hp.put i2 i3 kv.2
    obtain ⟨g', g1, g2, g3, g4⟩ := pd_merge (RW := RW) (rows := l) (more := r) hp1 (fun i j v hv => by
      by_cases c : i = t.1 ∧ j = t.2.1
      · rw [if_pos c] at hv
        cases hv
        exact ⟨t.2.2, by rw [c.1, c.2]; exact i1, e2⟩
      · rw [if_neg c] at hv
        exact hg i j v hv) (fun t ht => hin t (List.mem_cons_of_mem _ ht)) (Nat.succ.inj hlen) (fun k t kv h1 h2 => hall (k + 1) t kv h1 h2)
    refine ⟨g', ?_, g2, fun t' ht' => ?_, fun i j h => g4 i j ?_⟩
    · show Pd n (mergeT (putK kvs kv.1 kv.2) r) g'
      rw [e1]
      exact g1
    · rcases List.mem_cons.mp ht' with rfl | h
      · exact g4 _ _ (by rw [if_pos ⟨rfl, rfl⟩]; exact fun z => by cases z)
      · exact g3 t' h
    · by_cases c : i = t.1 ∧ j = t.2.1
      · rw [if_pos c]
        exact fun z => by cases z
      · rw [if_neg c]
        exact h
def spWeightsIn (K : PySem.W.Frag) : Sp := fun vs H Q _ => ∃ x, vs = [x] ∧ ∃ (n : Nat) (rs : List RwA), n ≤ 7 ∧ TiS K H x rs ∧ TieOk n (rs.map Prod.fst) ∧ ∀ d H', Ex H H' → H d = none → AmD K H' d n (rs.map Prod.fst) → Q (.ref d) H'
/-! weights_in: slots 0 ties, 1 i, 2 j, 3 weight -/
theorem sc_weights_in : FnScope ["ties", "i", "j", "weight"] ["ties"] (defScope s_weights_in) := ⟨rfl, rfl, rfl, by decide +kernel, rfl, by decide +kernel, by decide +kernel⟩
theorem ok_weights_in (T : Tops K mg CR CW CN CH) (has : Has P w K mg base 3 "as_tuples" ["thing"] (spAsT K)) : Has P w K mg base 4 "weights_in" ["ties"] (spWeightsIn K) := by
  refine has_of (k := 3) T.weights_in sc_weights_in (fun _ _ _ _ _ _ us hl => match us, hl with | [_], _ => rfl) (fun vs H Q E h => by
    obtain ⟨x, rfl, _⟩ := h
    rfl) ?_
  intro f cdv A outer s H0 H vs Q E E0 hr h
  obtain ⟨x, rfl, n, rs, hn7, ⟨fp, ys, rfl, hys, hall⟩, ok, q⟩ := h
  have nd := (sc_weights_in).nd
  have hu64 : (CxD P w K mg base ["ties", "i", "j", "weight"] "weights_in" s_weights_in f cdv A outer s H0 E0).A.units + 64 < cLine := hr.units
  have hz := ok.len hn7
  rw [List.length_map] at hz
  refine bw_one (sw_ret (ew_Ty (call_dictPT hu64) T.b.b_dict (aw_cons (ew_lc (own := [("i", 1), ("j", 2), ("weight", 3)]) (lc_seq (l := rs) (pf := fun _ => true) (Fx := fun t x H => TieR K t x H) (R := fun t y H => PaR K t.1 y H) (sg := fun t x => [some (.ref fp), some (iV t.1.1), some (iV t.1.2.1), some (.ref t.2)]) (ev_name 0) hys hall.1.symm (by rw [hall.1]; omega) (fun i t x H2 ht hx e2 => (hall.2 i t x ht hx).mono e2) (fun t x H1 H2 h e => h.mono e) ?_ (fun _ _ => rfl) (fun _ _ _ _ _ _ => et_yes) ?_ (fun t y H1 H2 h k => h.kt k) ?_)))))
  · rintro t _ x H2 e2 ⟨a, rfl, h1, h2⟩ s0 H0 C clo fp
    exact gv_seq3 h1 (gv_name 1) (gv_name 2) (gv_name 3)
  · rintro t _ _ x H2 e2 ⟨a, rfl, h1, h2⟩ s0 H0 C clo fp
    intro H3 e3 Q' q'
    refine ew_tup (aw_cons (EUgo (evu_tup (av_cons (ev_name 1) (av_cons (ev_name 2) av_nil))) fun b H4 nb e4 hb => aw_cons (ew_call has hr (AVgo (av_cons (ev_name 3) av_nil) fun H5 e5 => ⟨_, rfl, t.1.2.2, ⟨t.2, rfl, ((h2.mono e3).mono e4).mono e5⟩, fun v H6 e6 hv => aw_nil ⟨by show 2 ≤ sizeLine; decide, fun p np => q' _ _ (((e4.trans e5).trans e6).trans (Ex.new np)) ⟨p, b, v, rfl, upd_same, Ex.new np _ _ (e6 _ _ (e5 _ _ hb)), hv.mono (Ex.new np)⟩⟩⟩))))
  · intro d zs H2 hd e2 hzs hall2
    rw [show rs.filter (fun _ => true) = rs from List.filter_eq_self.mpr fun _ _ => rfl] at hall2
    have hall3 : AllR (PaR K) (rs.map Prod.fst) zs H2 := by
      refine ⟨by rw [List.length_map]; exact hall2.1, fun k t y h1 h2 => ?_⟩
      rw [List.getElem?_map] at h1
      cases e : rs[k]? with
      | none => rw [e] at h1; cases h1
      | some t' =>
        rw [e] at h1
        cases h1
        exact hall2.2 k t' y e h2
    obtain ⟨pl, kvs, rfl, h4, _, h6, h7⟩ := paR_pairs hall3
    obtain ⟨g', g1, g2, g3, _⟩ := pd_merge (H := H2) (RW := rs.map Prod.fst) (rows := rs.map Prod.fst) (more := kvs) (Pd.nil n) (fun i j v h => by cases h) (fun t ht => ⟨ht, by have := ok.ok t ht; omega, (ok.ok t ht).2.1⟩) h6 h7
    refine aw_nil ⟨d, pl, kvs, rfl, .inl (.inl hzs), h4, fun c hc => q c _ (e2.trans (Ex.new hc)) (Evl.fresh_back e2 hc) ⟨_, g', upd_same, g1, fun i j v hv => ?_, g3⟩⟩
    obtain ⟨m, a, b⟩ := g2 i j v hv
    exact ⟨m, a, b.mono (Ex.new hc)⟩
end
end Cut


namespace Cut
open PySem PySem.Spec PyProof.Rows L2 Evl
/-- pairs with what they are made of -/
abbrev PaT := Rw × Addr × Addr
def PaA (K : PySem.W.Frag) (t : PaT) (y : V) (H : Hp) : Prop := ∃ q, y = .ref q ∧ H q = some (.tup [.ref t.2.1, .ref t.2.2]) ∧ H t.2.1 = some (.tup [iV t.1.1, iV t.1.2.1]) ∧ Tp K H t.2.2 [.int (loA t.1.2.2 : Nat), .int (loB t.1.2.2 : Nat)]
theorem PaA.kt {K : PySem.W.Frag} {t : PaT} {y : V} {H H' : Hp} (h : PaA K t y H) (k : Kt H H') : PaA K t y H' := by
  obtain ⟨q, h1, h2, h3, h4⟩ := h
  exact ⟨q, h1, k _ _ h2, k _ _ h3, h4.kt k⟩
theorem paA_of {K : PySem.W.Frag} {H : Hp} : ∀ {rows : List Rw} {ys : List V}, AllR (PaR K) rows ys H → ∃ rs : List PaT, rs.map Prod.fst = rows ∧ AllR (PaA K) rs ys H
  | [], [], _ => ⟨[], rfl, AllR.nil⟩
  | [], y :: ys, h => by cases h.1
  | a :: l, [], h => by cases h.1
  | a :: l, y :: ys, h => by
    obtain ⟨q, b, v, e, h1, h2, ⟨p, rfl, hv⟩⟩ := h.2 0 a y rfl rfl
    obtain ⟨rs, e1, h3⟩ := paA_of (rows := l) (ys := ys) ⟨Nat.succ.inj h.1, fun k b z h3 h4 => h.2 (k + 1) b z h3 h4⟩
    refine ⟨(a, b, p) :: rs, by rw [List.map_cons, e1], by rw [List.length_cons, List.length_cons, h3.1], fun k t z hk hz => ?_⟩
    cases k with
    | zero =>
      have e2 : (a, b, p) = t := Option.some.inj hk
      have e3 : y = z := Option.some.inj hz
      rw [← e2, ← e3]
      exact ⟨q, e, h1, h2, hv⟩
    | succ k => exact h3.2 k t z hk hz
structure TieW (n : Nat) (W : Mx) (rows : List Rw) : Prop where
  val : ∀ t ∈ rows, W t.1 t.2.1 = (t.2.2 : Int)
  all : ∀ i j, i < j → j < n → W i j ≠ 0 → ∃ m, (i, j, m) ∈ rows
/-- the keys of a dict of pairs, told by their tuples -/
theorem keys_prs {H : Hp} {n : Nat} {kvs : List (List Key × V)} {g : Nat → Nat → Option V} (h : Pd n kvs g) {bs : List Addr} (hb : IsKeys H kvs bs) : AllR PrR (kvs.map fun kv => kPr kv.1) (bs.map V.ref) H := by
  have hl : kvs.length = bs.length := Paired.length hb
  refine ⟨by rw [List.length_map, List.length_map, hl], fun k a y h1 h2 => ?_⟩
  rw [List.getElem?_map] at h1 h2
  cases e : bs[k]? with
  | none => rw [e] at h2; cases h2
  | some b =>
    rw [e] at h2
    cases h2
    obtain ⟨kv, hkv, hp⟩ := L2.DX.pget (F := fun (p : List Key × V) b => H b = some (.tup (p.1.map kV))) hb e
    rw [hkv] at h1
    cases h1
    obtain ⟨i, j, _, _, ek, _⟩ := h.mem (List.mem_of_getElem? hkv)
    rw [ek] at hp
    refine ⟨b, rfl, ?_⟩
    show H b = some (.tup [iV (kPr kv.1).1, iV (kPr kv.1).2])
    rw [ek, kPr_kp]
    exact hp
theorem keys_nd {n : Nat} {kvs : List (List Key × V)} {g : Nat → Nat → Option V} (h : Pd n kvs g) : (kvs.map fun kv => kPr kv.1).Nodup ∧ ∀ i j, (i, j) ∈ (kvs.map fun kv => kPr kv.1) ↔ ∃ v, g i j = some v := by
  have h1 := h.pairs fun _ => true
  rw [show kvs.filter (fun _ => true) = kvs from List.filter_eq_self.mpr fun _ _ => rfl] at h1
  exact ⟨h1.1, fun i j => (h1.2 i j).trans ⟨fun ⟨v, e, _⟩ => ⟨v, e⟩, fun ⟨v, e⟩ => ⟨v, e, rfl⟩⟩⟩
theorem keys_ok {n : Nat} {kvs : List (List Key × V)} {g : Nat → Nat → Option V} (h : Pd n kvs g) (hn : n ≤ 7) : ∀ kv ∈ kvs, ∃ ns : List Int, kv.1 = ns.map Sum.inl ∧ ns.length = 2 ∧ TS.Bd 64 ns := fun kv hkv => by
  obtain ⟨i, j, hi, hj, ek, _⟩ := h.mem hkv
  refine ⟨[(i : Int), (j : Int)], ek, rfl, fun m hm => ?_⟩
  rcases List.mem_cons.mp hm with e | hm
  · omega
  · have := List.mem_singleton.mp hm
    omega
section
variable {P : Program} {w : World} {K : PySem.W.Frag} {mg : Str → Option Value} {base : Heap} {CR CW CN CH : Addr}
/-- what has to be told of ties and their web -/
structure TieX (n : Nat) (W : Mx) (rows : List Rw) : Prop where
  ok : TieOk n rows
  w : TieW n W rows
  wok : Wok W
  le : 1 ≤ n ∧ n ≤ 7
def spPutW (K : PySem.W.Frag) (CW : Addr) : Sp := fun vs H Q _ => ∃ r d, vs = [.ref r, .ref d] ∧ ∃ (n : Nat) (W : Mx) (rows : List Rw) (dx w0 t0 : Addr), H r = some (.ins CW dx (wbFs n w0 t0)) ∧ AmD K H d n rows ∧ TieX n W rows ∧ ∀ H', WbAt K CW H' r n W → Km [r] H H' → Q .non H'
/-! put_weights: slots 0 web, 1 weights, 2 told, 3 places, 4 weight -/
theorem sc_put_weights : FnScope ["web", "weights", "told", "places", "weight"] ["web", "weights"] (defScope s_put_weights) := ⟨rfl, rfl, rfl, by decide +kernel, rfl, by decide +kernel, by decide +kernel⟩
theorem ok_put_weights (T : Tops K mg CR CW CN CH) : Has P w K mg base 1 "put_weights" ["web", "weights"] (spPutW K CW) := by
  refine has_of (k := 0) T.put_weights sc_put_weights (fun _ _ _ _ _ _ us hl => match us, hl with | [_, _], _ => rfl) (fun vs H Q E h => by
    obtain ⟨r, d, rfl, _⟩ := h
    rfl) ?_
  intro f cdv A outer s H0 H vs Q E E0 hr h
  obtain ⟨r, d, rfl, n, W, rows, dx, w0, t0, ho, ⟨kvs, g, hd, hpd, hg1, hg2⟩, hX, q⟩ := h
  have nd := (sc_put_weights).nd
  have hu := hu_of hr
  have hu64 : (CxD P w K mg base ["web", "weights", "told", "places", "weight"] "put_weights" s_put_weights f cdv A outer s H0 E0).A.units + 64 < cLine := hr.units
  obtain ⟨pn, hpn, hn0⟩ := T.nought (H := H)
  have hkl : kvs.length ≤ 49 := Nat.le_trans hpd.len (Nat.mul_le_mul hX.le.2 hX.le.2)
  have hval : ∀ i j v, g i j = some v → Amt K H v (W i j).toNat ∧ i < j ∧ j < n := fun i j v hv => by
    obtain ⟨m, h1, h2⟩ := hg1 i j v hv
    have h3 := hX.w.val _ h1
    have h4 := hX.ok.ok _ h1
    replace h3 : W i j = (m : Int) := h3
    rw [h3]
    exact ⟨h2, h4.1, h4.2.1⟩
  refine bw_cons (sw_setLcIf 2 (own := [("places", 3)]) (lc_of (iw_L (ew_B (cr_sortKT (d := 2) (B := 64) (by decide)) T.b.b_sorted (aw_cons (EVgo (ev_name 1) fun H1 e1 => aw_nil ⟨d, kvs, rfl, .inl (e1 _ _ hd), by omega, keys_ok hpd hX.le.2, fun bs zs l hbs hperm hpw nl => ⟨l, rfl, ⟨zs, .inl (.inl upd_same)⟩, ?_⟩⟩))))))
  obtain ⟨prs, hp1, hp2, hp3⟩ := sort_prs (keys_prs hpd hbs) (keys_nd hpd).1 (fun a ha => by
    obtain ⟨v, hv⟩ := ((keys_nd hpd).2 a.1 a.2).mp ha
    obtain ⟨_, h1, h2⟩ := hval _ _ _ hv
    have := hX.le
    omega) hperm hpw
  have hpm : ∀ a ∈ prs, ∃ v, g a.1 a.2 = some v := fun a ha => ((keys_nd hpd).2 a.1 a.2).mp (hp1.mem_iff.mp ha)
  have e2 : Ex H (upd H1 l (.lst zs)) := e1.trans (Ex.new nl)
  have hl2 : (upd H1 l (.lst zs)) l = some (.lst zs) := upd_same
  have hz3 : AllR PrR prs zs (upd H1 l (.lst zs)) := hp3.imp fun a y r => r.kt (Kt.of (Ex.new nl))
  have fl : ∀ {p : Addr}, (upd H1 l (.lst zs)) p = none → H p = none := fun h => Evl.fresh_back e2 h
  generalize upd H1 l (.lst zs) = H2 at e2 hl2 hz3 fl
  have hzl : zs.length ≤ 49 := by
    rw [hp3.1, hp1.length_eq, List.length_map]
    exact hkl
  refine lc_goX (l := prs) (pf := fun a => decide (W a.1 a.2 ≠ 0)) (n := zs.length) (G := fun H => SqL K H l zs) (Y := YAt zs) (Fx := fun a x H => PrR a x H) (R := fun a y H => PaR K (a.1, a.2, (W a.1 a.2).toNat) y H) (sg := fun a x => [some (.ref r), some (.ref d), none, some x, none]) walk_list (fun H3 e3 => .inl (.inl (e3 _ _ hl2))) hp3.1.symm (by omega) ?_ (fun a x H3 H4 h e => h.kt (Kt.of e)) ?_ (fun _ _ => rfl) ?_ ?_ (fun a y H3 H4 h k => h.kt k) ?_
  · rintro i a x H3 H4 ha e3 ⟨rfl, hx⟩
    exact ⟨Ex.refl _, (hz3.2 i a x ha hx).kt (Kt.of e3)⟩
  · rintro a _ x H3 e3 _ s0 H0 C clo fp
    exact gv_name 3
  · rintro a ha x H3 e3 ⟨q', rfl, hq⟩
    obtain ⟨v, hv⟩ := hpm a ha
    obtain ⟨hva, _, _⟩ := hval _ _ _ hv
    have e23 := e2.trans e3
    have hvv : valV kvs (kp a.1 a.2) = some v := by rw [hpd.val]; exact hv
    refine tv_b fun s0 H0 C clo fp => tv_neD hu64 (ev_itemTR hu (ev_name 1) (ev_name 3) hq (.inl (e23 _ _ hd)) hvv) (ev_glob (v := .ref pn) hpn rfl) (fun H4 e4 => (hva.mono (e23.trans e4)).dp) (fun H4 e4 => (hn0.mono (e23.trans e4)).dp) (sh_of (by simp [dAm, okD, okA]) (by simp [dAm, PyData.depth, PyData.depthAll])) (sh_of (by simp [dAm, okD, okA]) (by simp [dAm, PyData.depth, PyData.depthAll])) ?_
    have hnn := hX.wok.nn a.1 a.2
    by_cases c : W a.1 a.2 = 0
    · rw [c, show (0 : Int).toNat = 0 from rfl, (eqv_iff (d := dAm 0) (e := dAm 0) (by simp [dAm, okD, okA]) (by simp [dAm, okD, okA])).mpr rfl, decide_eq_false (by simp)]
      rfl
    · have h1 : PyData.eqv (dAm (W a.1 a.2).toNat) (dAm 0) = false := by
        cases e : PyData.eqv (dAm (W a.1 a.2).toNat) (dAm 0) with
        | false => rfl
        | true =>
          have := dAm_inj.mp ((eqv_iff (by simp [dAm, okD, okA]) (by simp [dAm, okD, okA])).mp e)
          omega
      rw [h1, decide_eq_true c]
      rfl
  · rintro a ha _ x H3 e3 ⟨q', rfl, hq⟩ s0 H0 C clo fp
    obtain ⟨v, hv⟩ := hpm a ha
    obtain ⟨hva, _, _⟩ := hval _ _ _ hv
    have e23 := e2.trans e3
    have hvv : valV kvs (kp a.1 a.2) = some v := by rw [hpd.val]; exact hv
    intro H4 e4 Q' q''
    refine ew_tup (AVgo (av_cons (ev_name 3) (av_cons (ev_itemTR (k := kp a.1 a.2) hu (ev_name 1) (ev_name 3) (e4 _ _ hq) (.inl (e4 _ _ (e23 _ _ hd))) hvv) av_nil)) fun H5 e5 => ⟨by show 2 ≤ sizeLine; decide, fun p np => q'' _ _ (e5.trans (Ex.new np)) ⟨p, q', v, rfl, upd_same, Ex.new np _ _ (e5 _ _ (e4 _ _ hq)), (hva.mono (e23.trans (e4.trans e5))).mono (Ex.new np)⟩⟩)
  · intro tl ys H3 htl e3 hys hall
    have e03 := e2.trans e3
    have ftl : H tl = none := fl htl
    generalize hrows' : (prs.filter fun a => decide (W a.1 a.2 ≠ 0)).map (fun a => ((a.1, a.2, (W a.1 a.2).toNat) : Rw)) = rows'
    have hall' : AllR (PaR K) rows' ys H3 := by
      refine ⟨by rw [← hrows', List.length_map]; exact hall.1, fun k t y h1 h2 => ?_⟩
      rw [← hrows', List.getElem?_map] at h1
      cases e : (prs.filter fun a => decide (W a.1 a.2 ≠ 0))[k]? with
      | none => rw [e] at h1; cases h1
      | some a =>
        rw [e] at h1
        cases h1
        exact hall.2 k a y e h2
    have hmem : ∀ i j m, (i, j, m) ∈ rows' ↔ i < j ∧ j < n ∧ 0 < m ∧ W i j = (m : Int) := fun i j m => by
      rw [← hrows']
      constructor
      · intro hm
        obtain ⟨a, ha, e⟩ := List.mem_map.mp hm
        obtain ⟨h1, h2⟩ := List.mem_filter.mp ha
        obtain ⟨v, hv⟩ := hpm a h1
        obtain ⟨_, h3, h4⟩ := hval _ _ _ hv
        obtain ⟨rfl, e'⟩ := Prod.mk.inj e
        obtain ⟨rfl, rfl⟩ := Prod.mk.inj e'
        have h5 := of_decide_eq_true h2
        have hnn := hX.wok.nn a.1 a.2
        exact ⟨h3, h4, by omega, by omega⟩
      · rintro ⟨h1, h2, h3, h4⟩
        obtain ⟨m', hm'⟩ := hX.w.all i j h1 h2 (by omega)
        obtain ⟨v, hv⟩ := Option.ne_none_iff_exists'.mp (hg2 _ hm')
        refine List.mem_map.mpr ⟨(i, j), List.mem_filter.mpr ⟨hp1.mem_iff.mpr (((keys_nd hpd).2 i j).mpr ⟨v, hv⟩), decide_eq_true (by show W i j ≠ 0; omega)⟩, ?_⟩
        show (i, j, (W i j).toNat) = (i, j, m)
        rw [h4, Int.toNat_natCast]
    have hlen' : rows'.length ≤ 49 := by
      rw [← hrows', List.length_map]
      refine Nat.le_trans (List.length_filter_le _ _) ?_
      rw [← hp3.1]
      exact hzl
    have npr : tl ≠ r := fun z => by
      rw [z, ho] at ftl
      cases ftl
    -- web.weights = dict(told)
    refine bw_cons (sw_fld (ew_Ty (call_dictPT hu64) T.b.b_dict (aw_cons (EVgo (ev_name 2) fun H4 e4 => ?_))))
    obtain ⟨pl, kv2, hpl, h4, _, h6, h7⟩ := paR_pairs (hall'.imp fun a y r => r.kt (Kt.of e4))
    obtain ⟨g', g1, g2, g3, _⟩ := pd_merge (H := H4) (RW := rows') (rows := rows') (more := kv2) (Pd.nil n) (fun i j v h => by cases h) (fun t ht => ⟨ht, by have := (hmem t.1 t.2.1 t.2.2).mp ht; omega, ((hmem t.1 t.2.1 t.2.2).mp ht).2.1⟩) h6 h7
    refine aw_nil ⟨tl, pl, kv2, rfl, by rw [← hpl]; exact .inl (.inl (e4 _ _ hys)), h4, fun wd hwd => EVgo (ev_name 0) fun H5 e5 => ⟨r, CW, dx, _, rfl, e5 _ _ (Ex.new hwd _ _ (e4 _ _ (e03 _ _ ho))), T.cWeb.cl, T.nWeb.weights, by show 3 < 1000; decide, ?_⟩⟩
    have e05 : Ex H H5 := (e03.trans e4).trans ((Ex.new hwd).trans e5)
    have nwr : wd ≠ r := fun z => by
      rw [z, e4 _ _ (e03 _ _ ho)] at hwd
      cases hwd
    have k6 : Km [r] H (upd H5 r (.ins CW dx (putF "weights" (.ref wd) (wbFs n w0 t0)))) := (Km.of e05).upd (by simp)
    have r6 : (upd H5 r (.ins CW dx (putF "weights" (.ref wd) (wbFs n w0 t0)))) r = some (.ins CW dx (wbFs n wd t0)) := upd_same
    have t6 : Kt H4 (upd H5 r (.ins CW dx (putF "weights" (.ref wd) (wbFs n w0 t0)))) := (Kt.of ((Ex.new hwd).trans e5)).trans (Kt.upd fun xs z => by
      rw [e05 _ _ ho] at z
      cases z)
    have w6 : (upd H5 r (.ins CW dx (putF "weights" (.ref wd) (wbFs n w0 t0)))) wd = some (.dT (mergeT [] kv2)) := by
      rw [upd_ne nwr]
      exact e5 _ _ upd_same
    have l6 : (upd H5 r (.ins CW dx (putF "weights" (.ref wd) (wbFs n w0 t0)))) tl = some (.lst ys) := by
      rw [upd_ne npr]
      exact e5 _ _ (Ex.new hwd _ _ (e4 _ _ hys))
    generalize upd H5 r (.ins CW dx (putF "weights" (.ref wd) (wbFs n w0 t0))) = H6 at k6 r6 t6 w6 l6
    have hall6 : AllR (PaR K) rows' ys H6 := hall'.imp fun a y r => (r.kt (Kt.of e4)).kt t6
    obtain ⟨rs, hrs, hallA⟩ := paA_of hall6
    have hrl : rs.length = ys.length := hallA.1.symm
    have hyl : ys.length ≤ 49 := by rw [hall6.1]; exact hlen'
    -- web.ties = tuple([..])
    refine bw_one (sw_fld (ew_Ty call_tuple_of T.b.b_tuple (aw_cons (ew_lc (own := [("places", 3), ("weight", 4)]) (lc_seq (l := rs) (pf := fun _ => true) (Fx := fun t x H => PaA K t x H) (R := fun t y H => RowR K t.1 y H) (sg := fun t x => [some (.ref r), some (.ref d), some (.ref tl), some (.ref t.2.1), some (.ref t.2.2)]) (ev_name 2) (.inl (.inl (.inl l6))) hrl (by omega) (fun i t x H2 ht hx e2 => (hallA.2 i t x ht hx).kt (Kt.of e2)) (fun t x H1 H2 h e => h.kt (Kt.of e)) ?_ (fun _ _ => rfl) (fun _ _ _ _ _ _ => et_yes) ?_ (fun t y H1 H2 h k => h.kt k) ?_)))))
    · rintro t _ x H7 e7 ⟨a, rfl, h1, h2, h3⟩ s0 H0 C clo fp
      exact gv_tup2 (SqT.of h1) (gv_name 3) (gv_name 4)
    · rintro t _ _ x H7 e7 ⟨a, rfl, h1, h2, h3⟩ s0 H0 C clo fp
      intro H8 e8 Q' q''
      refine ew_tup (AVgo (av_cons (ev_ixTn 0 (ev_name 3) ev_int (SqT.of (e8 _ _ h2)) rfl) (av_cons (ev_ixTn 1 (ev_name 3) ev_int (SqT.of (e8 _ _ h2)) rfl) (av_cons (ev_name 4) av_nil))) fun H9 e9 => ⟨by show 3 ≤ sizeLine; decide, fun p np => q'' _ _ (e9.trans (Ex.new np)) ⟨p, t.2.2, rfl, upd_same, ((h3.mono e8).mono e9).mono (Ex.new np)⟩⟩)
    · intro c zs2 H7 hc e7 hzs2 hall2
      rw [show rs.filter (fun _ => true) = rs from List.filter_eq_self.mpr fun _ _ => rfl] at hall2
      refine aw_nil ⟨c, zs2, rfl, .inl ⟨.inl (.inl hzs2), fun t ht => EVgo (ev_name 0) fun H8 e8 => ⟨r, CW, dx, _, rfl, e8 _ _ (Ex.new ht _ _ (e7 _ _ r6)), T.cWeb.cl, T.nWeb.ties, by show 3 < 1000; decide, ?_⟩⟩⟩
      have e68 : Ex H6 H8 := e7.trans ((Ex.new ht).trans e8)
      have ntr : t ≠ r := fun z => by
        rw [z, e7 _ _ r6] at ht
        cases ht
      have k9 : Km [r] H (upd H8 r (.ins CW dx (putF "ties" (.ref t) (wbFs n wd t0)))) := (k6.trans (Km.of e68)).upd (by simp)
      have t9 : Kt H6 (upd H8 r (.ins CW dx (putF "ties" (.ref t) (wbFs n wd t0)))) := (Kt.of e68).trans (Kt.upd fun xs z => by
        rw [e68 _ _ r6] at z
        cases z)
      have t79 : Kt H7 (upd H8 r (.ins CW dx (putF "ties" (.ref t) (wbFs n wd t0)))) := (Kt.of ((Ex.new ht).trans e8)).trans (Kt.upd fun xs z => by
        rw [e68 _ _ r6] at z
        cases z)
      refine q _ ⟨⟨dx, wd, t, _, g', zs2, rows', upd_same, by rw [upd_ne nwr]; exact e68 _ _ w6, g1, fun i j hij hjn => ?_, by rw [upd_ne ntr]; exact e8 _ _ upd_same, ⟨by rw [hall2.1, ← hrs, List.length_map], fun k t' y h1 h2 => ?_⟩, ⟨fun i j m hm => (hmem i j m).mp hm, fun i j hij hjn hne => ⟨(W i j).toNat, (hmem i j _).mpr ⟨hij, hjn, ?_, ?_⟩⟩, hlen'⟩⟩, hX.wok, hX.le⟩ k9
      · by_cases c : W i j = 0
        · refine .inr ⟨?_, c⟩
          cases e : g' i j with
          | none => rfl
          | some v =>
            obtain ⟨m, h1, _⟩ := g2 i j v e
            obtain ⟨_, _, h3, h4⟩ := (hmem i j m).mp h1
            omega
        · have hnn := hX.wok.nn i j
          have hin : (i, j, (W i j).toNat) ∈ rows' := (hmem i j _).mpr ⟨hij, hjn, by omega, by omega⟩
          obtain ⟨v, hv⟩ := Option.ne_none_iff_exists'.mp (g3 _ hin)
          obtain ⟨m, h1, h2⟩ := g2 i j v hv
          obtain ⟨_, _, _, h3⟩ := (hmem i j m).mp h1
          exact .inl ⟨v, m, hv, (h2.kt t6).kt t9, h3⟩
      · rw [← hrs, List.getElem?_map] at h1
        cases e : rs[k]? with
        | none => rw [e] at h1; cases h1
        | some t2 =>
          rw [e] at h1
          cases h1
          exact (hall2.2 k t2 y e h2).kt t79
      · have hnn := hX.wok.nn i j
        omega
      · have hnn := hX.wok.nn i j
        omega
theorem Sq.km1 {H H' : Hp} {r C dx p : Addr} {fs : List (Str × V)} {xs : List V} (k : Km [r] H H') (hr : H r = some (.ins C dx fs)) (h : Sq K H p xs) : Sq K H' p xs := by
  have up : ∀ {o : HO}, H p = some o → (∀ C dx fs, o ≠ .ins C dx fs) → H' p = some o := fun {o} h ho => k _ _ h fun z => by
    rw [List.mem_singleton.mp z, hr] at h
    exact ho _ _ _ (Option.some.inj h).symm
  rcases h with ((h | ⟨o, h⟩) | h) | ((h | ⟨o, h⟩) | h)
  · exact .inl (.inl (.inl (up h fun _ _ _ z => by cases z)))
  · exact .inl (.inl (.inr ⟨o, up h fun _ _ _ z => by cases z⟩))
  · exact .inl (.inr h)
  · exact .inr (.inl (.inl (up h fun _ _ _ z => by cases z)))
  · exact .inr (.inl (.inr ⟨o, up h fun _ _ _ z => by cases z⟩))
  · exact .inr (.inr h)
def spWebInit (K : PySem.W.Frag) (CW : Addr) : Sp := fun vs H Q _ => ∃ r x y, vs = [.ref r, x, y] ∧ ∃ (n : Nat) (W : Mx) (rs : List RwA) (dx : Addr), x = .int (n : Int) ∧ H r = some (.ins CW dx []) ∧ TiS K H y rs ∧ TieX n W (rs.map Prod.fst) ∧ ∀ H', WbAt K CW H' r n W → Km [r] H H' → Q .non H'
/-! Web.__init__: slots 0 self, 1 many, 2 ties, 3 at -/
theorem sc_Web_init__ : FnScope ["self", "many", "ties", "at"] ["self", "many", "ties"] (defScope s_Web_init__) := ⟨rfl, rfl, rfl, by decide +kernel, rfl, by decide +kernel, by decide +kernel⟩
theorem ok_Web_init (T : Tops K mg CR CW CN CH) (hwh : Has P w K mg base 1 "is_whole" ["thing", "least", "most"] spWhole) (hwr : Has P w K mg base 5 "wrong_tie" ["many", "ties"] (spWrong K)) (hwi : Has P w K mg base 4 "weights_in" ["ties"] (spWeightsIn K)) (hpw : Has P w K mg base 1 "put_weights" ["web", "weights"] (spPutW K CW)) : HasC P w K mg base CW 6 "Web" ["self", "many", "ties"] (spWebInit K CW) := by
  refine hasC_of (k := 5) T.cWeb sc_Web_init__ (fun _ _ _ _ _ _ us hl => match us, hl with | [_, _, _], _ => rfl) (fun vs H Q E h => by
    obtain ⟨r, x, y, rfl, _⟩ := h
    rfl) ?_
  intro f cdv A outer s H0 H vs Q E E0 hr h
  obtain ⟨r, x, y, rfl, n, W, rs, dx, rfl, ho, hT, hX, q⟩ := h
  have nd := (sc_Web_init__).nd
  have hle := hX.le
  refine bw_cons (sw_ifF (tv_is (tv_not (tv_val (ev_is (w := .bl true) (ev_call hwh hr (av_cons (ev_name 1) (av_cons ev_int (av_cons (ev_globI T.b.MOST_PLACES) av_nil))) (fun H1 e1 => ⟨_, _, _, rfl, rfl⟩)) ?_))) rfl) fun H1 e1 => bw_nil ?_)
  · rw [decide_eq_true (show (1 : Int) ≤ (n : Int) by omega), decide_eq_true (show (n : Int) ≤ 40 by omega)]
    rfl
  refine bw_cons (sw_set 3 (EVgo (ev_call hwr hr (av_cons (ev_name 1) (av_cons (ev_name 2) av_nil)) (fun H2 e2 => ⟨_, _, rfl, n, rs, rfl, hle.2, hT.mono (e1.trans e2), hX.ok, rfl⟩)) fun H2 e2 => ?_))
  refine bw_cons (sw_ifF (tv_is (tv_notN (ev_name 3)) rfl) fun H3 e3 => bw_nil ?_)
  have e03 := (e1.trans e2).trans e3
  refine bw_cons (sw_fld (EVgo (ev_name 1) fun H4 e4 => EVgo (ev_name 0) fun H5 e5 => ⟨r, CW, dx, [], rfl, e5 _ _ (e4 _ _ (e03 _ _ ho)), T.cWeb.cl, T.nWeb.many, by decide, ?_⟩))
  have k1 : Km [r] H (upd H5 r (.ins CW dx (putF "many" (.int (n : Int)) []))) := (Km.of (e03.trans (e4.trans e5))).upd (by simp)
  have r1 : (upd H5 r (.ins CW dx (putF "many" (.int (n : Int)) []))) r = some (.ins CW dx [("many", .int (n : Int))]) := upd_same
  generalize upd H5 r (.ins CW dx (putF "many" (.int (n : Int)) [])) = H6 at k1 r1
  refine bw_cons (sw_fld (ew_of pe_dnewT fun w0 hw0 => EVgo (ev_name 0) fun H7 e7 => ⟨r, CW, dx, _, rfl, e7 _ _ (Ex.new hw0 _ _ r1), T.cWeb.cl, T.nWeb.weights, by simp, ?_⟩))
  have k2 : Km [r] H (upd H7 r (.ins CW dx (putF "weights" (.ref w0) [("many", .int (n : Int))]))) := (k1.trans (Km.of ((Ex.new hw0).trans e7))).upd (by simp)
  have r2 : (upd H7 r (.ins CW dx (putF "weights" (.ref w0) [("many", .int (n : Int))]))) r = some (.ins CW dx [("many", .int (n : Int)), ("weights", .ref w0)]) := upd_same
  generalize upd H7 r (.ins CW dx (putF "weights" (.ref w0) [("many", .int (n : Int))])) = H8 at k2 r2
  refine bw_cons (sw_fld (EUgo (evu_tup av_nil) fun t0 H9 nt0 e9 ht0 => EVgo (ev_name 0) fun Ha ea => ⟨r, CW, dx, _, rfl, ea _ _ (e9 _ _ r2), T.cWeb.cl, T.nWeb.ties, by simp, ?_⟩))
  have k3 : Km [r] H (upd Ha r (.ins CW dx (putF "ties" (.ref t0) [("many", .int (n : Int)), ("weights", .ref w0)]))) := (k2.trans (Km.of (e9.trans ea))).upd (by simp)
  have r3 : (upd Ha r (.ins CW dx (putF "ties" (.ref t0) [("many", .int (n : Int)), ("weights", .ref w0)]))) r = some (.ins CW dx (wbFs n w0 t0)) := upd_same
  generalize upd Ha r (.ins CW dx (putF "ties" (.ref t0) [("many", .int (n : Int)), ("weights", .ref w0)])) = Hb at k3 r3
  have hT3 : TiS K Hb y rs := by
    obtain ⟨p, ys, h1, h2, h3⟩ := hT
    have kq : ∀ {p : Addr} {xs : List V}, Sq K H p xs → Sq K Hb p xs := fun {p xs} h => Sq.km1 k3 ho h
    exact ⟨p, ys, h1, kq h2, h3.imp fun a y ⟨q, h4, h5, h6⟩ => ⟨q, h4, kq h5, kq h6⟩⟩
  refine bw_one (sw_expr (ew_call hpw hr (aw_cons (EVgo (ev_name 0) fun Hc ec => aw_cons (ew_call hwi hr (AVgo (av_cons (ev_name 2) av_nil) fun Hd ed => ⟨y, rfl, n, rs, hle.2, hT3.mono (ec.trans ed), hX.ok, fun d He ee fd hD => aw_nil ⟨r, d, rfl, n, W, _, dx, w0, t0, (ec.trans (ed.trans ee)) _ _ r3, hD, hX, fun Hf hWb kf => q Hf hWb ((k3.trans (Km.of (ec.trans (ed.trans ee)))).trans kf)⟩⟩))))))
end
end Cut


namespace Cut
open PySem PySem.Spec PyProof.Rows L2 Evl
section
variable {X : Cx} {σ : L2.St} {H : Hp} {pos p : Pos} {a : Expr}
theorem ev_intB {k : Bool} (hm : X.mg "int" = none) (ha : EV X a σ H (.bl k)) (hg : Gl X "int" := by rfl) (he : starEach [a] X.env = (false, eval a X.env) :: starEach [] X.env := by rfl) : EV X (.Call (.Name "int" p) [a] [] pos) σ H (.int (if k then 1 else 0)) :=
  ev_Ty call_int1 hm (av_cons ha av_nil he) (fun H1 e1 Q q => .inr ⟨k, rfl, q H1 (Ex.refl H1)⟩) (by decide +kernel) hg (by decide) (by decide) he
theorem sw_augE {x : Str} {pos' : Pos} {e : Expr} {D : Ends} {n : Int} (i : Nat) (hx0 : σ[i]? = some (some (.int n))) (q : EW X e σ H fun y H1 => ∃ m, y = .int m ∧ D.nx (σ.set i (some (.int (n + m)))) H1) (hN : X.N.Nodup := by assumption) (hi : X.N[i]? = some x := by rfl) (hx : Loc X.env.scope x := by first | exact Or.inl rfl | exact Or.inr rfl)
    (hf : X.fn x = true ∨ X.env.scope.names.lookup x = some .local := by first | exact .inl rfl | exact .inr rfl) : SW X (.AugAssign (.Name x pos') .Add e pos) D σ H := sw_of (ps_aug hN hi hx pe_w ip_add hf) ⟨_, hx0, EW.mono q fun y H1 ⟨m, h1, h2⟩ => ⟨n, m, rfl, h1, h2⟩⟩
end
theorem Rch.imp {n : Nat} {R R' : Nat → Nat → Prop} {A : Pl} {v : Nat} (h : Rch n R A v) (f : ∀ u v, u < n → v < n → R u v → R' u v) : Rch n R' A v := by
  induction h with
  | base hv h => exact .base hv h
  | step h hv r ih => exact .step ih hv (f _ _ h.lt hv r)
/-- with no way of room 1 a flow is a greatest one -/
theorem gst_noway {n : Nat} {W G : Mx} {fs ts : List Nat} (f : Flw n W (inP fs) (inP ts) G) (h : NoWay n W G fs ts 1) : Gst n W (inP fs) (inP ts) G :=
  ⟨f, fun v r => h v (r.imp fun a b _ _ (z : G a b < W a b) => (by omega))⟩
theorem ze_flw {n : Nat} {W : Mx} {fr to : Pl} (w : Wok W) : Flw n W fr to zeM := ⟨zeM_anti, fun i j _ _ => w.nn i j, fun v _ _ _ => sm_zero n⟩
theorem ze_rows (n : Nat) : FlRows n zeM [] := ⟨.nil, fun i j m => ⟨fun h => (by cases h), fun ⟨_, _, h, e⟩ => absurd (show (0 : Int) = (m : Int) from e) (by omega)⟩⟩
section
variable {P : Program} {w : World} {K : PySem.W.Frag} {mg : Str → Option Value} {base : Heap} {CR CW CN CH : Addr}
/-- web, froms, tos as they stand -/
structure WFT (K : PySem.W.Frag) (CW : Addr) (H : Hp) (wb pf pt : Addr) (n : Nat) (W : Mx) (fs ts : List Nat) : Prop where
  web : WbAt K CW H wb n W
  f : Tp K H pf (fs.map iV)
  t : Tp K H pt (ts.map iV)
  ends : EndsOk n fs ts
theorem WFT.mono {H H' : Hp} {wb pf pt : Addr} {n : Nat} {W : Mx} {fs ts : List Nat} (h : WFT K CW H wb pf pt n W fs ts) (e : Ex H H') : WFT K CW H' wb pf pt n W fs ts := ⟨h.web.mono e, h.f.mono e, h.t.mono e, h.ends⟩
/-- a greatest flow and a number -/
def spGst2 (K : PySem.W.Frag) (CW : Addr) : Sp := fun vs H Q _ => ∃ wb pf pt, vs = [.ref wb, .ref pf, .ref pt] ∧ ∃ n W fs ts, WFT K CW H wb pf pt n W fs ts ∧
  ∀ (p : Addr) (v : V) (k : Int) (rows : List Rw) (G : Mx) (H' : Hp), Ex H H' → H' p = some (.tup [v, .int k]) → FlAt K H' v rows → FlRows n G rows → Gst n W (inP fs) (inP ts) G → Q (.ref p) H'
/-! shortest_flow: slots 0 web, 1 froms, 2 tos, 3 rooms, 4 ways -/
theorem sc_shortest_flow : FnScope ["web", "froms", "tos", "rooms", "ways"] ["web", "froms", "tos"] (defScope s_shortest_flow) := ⟨rfl, rfl, rfl, by decide +kernel, rfl, by decide +kernel, by decide +kernel⟩
theorem ok_shortest_flow (T : Tops K mg CR CW CN CH) (hae : Has P w K mg base 3 "are_ends" ["web", "froms", "tos"] (spEnds K CW)) (hro : Has P w K mg base 4 "rooms_of" ["web", "flow"] (spRoomsOf K CR CW)) (hfi : Has P w K mg base 4 "filled" ["rooms", "froms", "tos", "least"] (spFilled K CR)) (hfl : HasM P w K mg base CR 3 "flow" ["self"] (spFlow K CR)) : Has P w K mg base 5 "shortest_flow" ["web", "froms", "tos"] (spGst2 K CW) := by
  refine has_of (k := 4) T.shortest_flow sc_shortest_flow (fun _ _ _ _ _ _ us hl => match us, hl with | [_, _, _], _ => rfl) (fun vs H Q E h => by
    obtain ⟨wb, pf, pt, rfl, _⟩ := h
    rfl) ?_
  intro f cdv A outer s H0 H vs Q E E0 hr h
  obtain ⟨wb, pf, pt, rfl, n, W, fs, ts, h0, q⟩ := h
  have nd := (sc_shortest_flow).nd
  refine bw_cons (sw_ifF (tv_is (tv_not (tv_val (ev_call hae hr (av_cons (ev_name 0) (av_cons (ev_name 1) (av_cons (ev_name 2) av_nil))) (fun H1 e1 => ⟨_, _, _, rfl, n, W, fs, ts, h0.web.mono e1, h0.f.mono e1, h0.t.mono e1, h0.ends, rfl⟩)))) rfl) fun H1 e1 => bw_nil ?_)
  refine bw_cons (sw_set 3 (ew_call hro hr (aw_cons (EVgo (ev_name 0) fun H2 e2 => aw_cons (EUgo (evu_tup av_nil) fun tp H3 ntp e3 htp => aw_nil ⟨wb, .ref tp, rfl, n, W, [], zeM, h0.web.mono ((e1.trans e2).trans e3), ⟨tp, [], rfl, htp, AllR.nil⟩, ze_rows n, zeM_anti, fun r bd H4 e4 N4 fbd fr => ?_⟩)))))
  have e04 := ((e1.trans e2).trans e3).trans e4
  obtain ⟨cl, R4, ok4, cov4⟩ := N4.at
  have fbd' : H bd = none := Evl.fresh_back ((e1.trans e2).trans e3) fbd
  refine bw_cons (sw_set 4 (ew_call hfi hr (AVgo (av_cons (ev_name 3) (av_cons (ev_name 1) (av_cons (ev_name 2) (av_cons ev_int av_nil)))) fun H5 e5 => ⟨r, pf, pt, 1, rfl, bd, n, W, zeM, cl, fs, ts, R4.mono e5, ok4, cov4, h0.f.mono (e04.trans e5), h0.t.mono (e04.trans e5), h0.ends, by omega, ze_flw h0.web.ok, fun k G H6 R6 c6 f6 no6 k6 => ?_⟩)))
  have e06 : Ex H H6 := Km.nil ((Km.of (M := []) (e04.trans e5)).drop k6 (by simp [fbd']))
  obtain ⟨⟨dx, wd, cd, ob, _⟩, _⟩ := id R6
  refine bw_one (sw_ret (ew_tup (aw_cons (ew_meth0 hfl T.cRooms.cl hr (EVgo (ev_name 3) fun H7 e7 => ⟨r, dx, _, rfl, e7 _ _ ob, rfl, r, rfl, bd, n, W, G, cl, R6.mono e7, fun v rows H8 e8 hv hrows => aw_cons (EVgo (ev_name 4) fun H9 e9 => aw_nil ⟨by show 2 ≤ sizeLine; decide, fun p np => ?_⟩)⟩)))))
  have e69 := (e7.trans e8).trans e9
  exact q p v k rows G _ (e06.trans (e69.trans (Ex.new np))) upd_same ((hv.kt (Kt.of e9)).kt (Kt.of (Ex.new np))) hrows (gst_noway f6 no6)
/-! ### halving -/
def vI : V → Int
  | .int i => i
  | _ => 0
def spBound (CR : Addr) : Sp := fun vs H Q _ => ∃ r, vs = [.ref r] ∧ ∃ wd bd cd n W F cl, RmX CR H r wd bd cd n W F cl ∧ ∀ (b : Nat) (H' : Hp), Ex H H' → (b = 0 → ∀ i j, i < n → j < n → W i j ≤ 0) → Q (.int (b : Int)) H'
/-! first_bound: slots 0 rooms, 1 greatest, 2 bound -/
theorem sc_first_bound : FnScope ["rooms", "greatest", "bound"] ["rooms"] (defScope s_first_bound) := ⟨rfl, rfl, rfl, by decide +kernel, rfl, by decide +kernel, by decide +kernel⟩
theorem ok_first_bound (T : Tops K mg CR CW CN CH) : Has P w K mg base 1 "first_bound" ["rooms"] (spBound CR) := by
  refine has_of (k := 0) T.first_bound sc_first_bound (fun _ _ _ _ _ _ us hl => match us, hl with | [_], _ => rfl) (fun vs H Q E h => by
    obtain ⟨r, rfl, _⟩ := h
    rfl) ?_
  intro f cdv A outer s H0 H vs Q E E0 hr h
  obtain ⟨r, rfl, wd, bd, cd, n, W, F, cl, R, q⟩ := h
  have nd := (sc_first_bound).nd
  obtain ⟨⟨dx, ob⟩, _, ⟨kvs, g, hw, hpd, hval⟩, _, _, _, hle⟩ := id R
  obtain ⟨_, fw, _, _⟩ := rm_fl T ob
  have hkl : kvs.length ≤ 49 := Nat.le_trans hpd.len (Nat.mul_le_mul hle.2 hle.2)
  have hvs : kvs.map (·.2) = (kvs.map fun kv => vI kv.2).map V.int := by
    rw [List.map_map]
    refine List.map_congr_left fun kv hkv => ?_
    obtain ⟨i, j, hi, hj, _, e⟩ := hpd.mem hkv
    show kv.2 = .int (vI kv.2)
    rcases hval i j hi hj with h | ⟨h, _⟩
    · rw [e] at h
      rw [Option.some.inj h]
      rfl
    · rw [e] at h
      cases h
  refine bw_cons (sw_set 1 (ew_B (cr_max rfl) T.b.b_max (aw_cons (ew_cat (ELgo (evl_lst (av_cons ev_int av_nil)) fun a H1 na e1 ha => ew_Ty (call_listVals rfl) T.b.b_list (aw_cons (ew_of (pe_bm0 PySem.F.plainAttrs_dict PySem.F.slot_dict_values PySem.F.type_dict_values mt_valuesT pe_w) (EVgo (te := EW _ _) (ev_fld (ev_name 0) (fw.mono e1)) fun H2 e2 => ⟨.inr (.inr (.inl ⟨rfl, .inr ⟨kvs, e2 _ _ (e1 _ _ hw)⟩⟩)), wd, kvs, rfl, rfl, e2 _ _ (e1 _ _ hw), fun vp nvp => aw_nil ⟨vp, wd, kvs, rfl, upd_same, Ex.new nvp _ _ (e2 _ _ (e1 _ _ hw)), fun l nl => ?_⟩⟩))))))))
  have e3 : Ex H1 (upd (upd H2 vp (valuesO vp wd)) l (.lst (kvs.map (·.2)))) := e2.trans ((Ex.new nvp).trans (Ex.new nl))
  refine ⟨a, l, _, _, rfl, rfl, e3 _ _ ha, upd_same, ?_, fun c nc => ?_⟩
  · rw [List.length_map]
    exact Evl.sz_of (by show 1 + kvs.length ≤ _; omega)
  refine aw_nil ⟨c, 0 :: kvs.map fun kv => vI kv.2, rfl, .inl (.inl ?_), by simp, fun m hm hmax => ?_⟩
  · rw [upd_same, hvs]
    rfl
  have e4 := (e1.trans e3).trans (Ex.new nc (o := .lst ([V.int 0] ++ kvs.map (·.2))))
  have hm0 : 0 ≤ m := hmax 0 List.mem_cons_self
  have hall : ∀ i j, i < n → j < n → W i j ≤ m := fun i j hi hj => by
    rcases hval i j hi hj with h | ⟨_, h⟩
    · have := hmax (W i j) (List.mem_cons_of_mem _ (List.mem_map.mpr ⟨_, hpd.of h, rfl⟩))
      exact this
    · rw [h]
      exact hm0
  generalize upd (upd (upd H2 vp (valuesO vp wd)) l (.lst (kvs.map (·.2)))) c (.lst ([V.int 0] ++ kvs.map (·.2))) = H5 at e4
  refine bw_cons (sw_set 2 (EVgo (ev_is (w := .int ((if 0 < m then 1 else 0 : Nat) : Int)) (ev_intB T.b.b_int (ev_gt (ev_name 1) ev_int)) ?_) fun H6 e6 => ?_))
  · by_cases h : 0 < m
    · rw [decide_eq_true h, if_pos h]
      rfl
    · rw [decide_eq_false h, if_neg h]
      rfl
  refine bw_cons (sw_whileM PassesOwn.never (fun k σ' H' => ∃ b : Nat, σ' = [some (.ref r), some (.int m), some (.int (b : Int))] ∧ k = (m - b).toNat ∧ Ex H H' ∧ (b = 0 → m ≤ 0)) _ ⟨_, rfl, rfl, e4.trans e6, fun h => ?_⟩ ?_)
  · by_cases h' : 0 < m
    · rw [if_pos h'] at h
      cases h
    · omega
  · rintro k σ' H' ⟨b, rfl, rfl, e7, hb⟩
    refine TVgo (tv_lt_le ev_int (ev_mul ev_int (ev_name 2) (.inl ⟨by decide, by decide⟩)) (ev_name 1)) fun H8 e8 => ?_
    refine ite2 (fun hd => ?_) (fun hd => ?_)
    · simp only [Bool.and_eq_true, decide_eq_true_eq] at hd
      refine bw_one (sw_set 2 (EVgo (ev_is (w := .int ((2 * b : Nat) : Int)) (ev_mul ev_int (ev_name 2) (.inl ⟨by decide, by decide⟩)) (by rfl)) fun H9 e9 => ⟨_, ?_, 2 * b, rfl, rfl, e7.trans (e8.trans e9), fun h => by omega⟩))
      omega
    · exact bw_one (sw_ret (EVgo (ev_name 2) fun H9 e9 => q b H9 (e7.trans (e8.trans e9)) fun h i j hi hj => Int.le_trans (hall i j hi hj) (hb h)))
/-! halved_flow: slots 0 web, 1 froms, 2 tos, 3 rooms, 4 bound, 5 ways -/
theorem sc_halved_flow : FnScope ["web", "froms", "tos", "rooms", "bound", "ways"] ["web", "froms", "tos"] (defScope s_halved_flow) := ⟨rfl, rfl, rfl, by decide +kernel, rfl, by decide +kernel, by decide +kernel⟩
theorem ok_halved_flow (T : Tops K mg CR CW CN CH) (hae : Has P w K mg base 3 "are_ends" ["web", "froms", "tos"] (spEnds K CW)) (hi : HasC P w K mg base CR 2 "Rooms" ["self", "web"] (spRmInit K CR CW)) (hfb : Has P w K mg base 1 "first_bound" ["rooms"] (spBound CR)) (hfi : Has P w K mg base 4 "filled" ["rooms", "froms", "tos", "least"] (spFilled K CR)) (hfl : HasM P w K mg base CR 3 "flow" ["self"] (spFlow K CR)) : Has P w K mg base 5 "halved_flow" ["web", "froms", "tos"] (spGst2 K CW) := by
  refine has_of (k := 4) T.halved_flow sc_halved_flow (fun _ _ _ _ _ _ us hl => match us, hl with | [_, _, _], _ => rfl) (fun vs H Q E h => by
    obtain ⟨wb, pf, pt, rfl, _⟩ := h
    rfl) ?_
  intro f cdv A outer s H0 H vs Q E E0 hr h
  obtain ⟨wb, pf, pt, rfl, n, W, fs, ts, h0, q⟩ := h
  have nd := (sc_halved_flow).nd
  refine bw_cons (sw_ifF (tv_is (tv_not (tv_val (ev_call hae hr (av_cons (ev_name 0) (av_cons (ev_name 1) (av_cons (ev_name 2) av_nil))) (fun H1 e1 => ⟨_, _, _, rfl, n, W, fs, ts, h0.web.mono e1, h0.f.mono e1, h0.t.mono e1, h0.ends, rfl⟩)))) rfl) fun H1 e1 => bw_nil ?_)
  refine bw_cons (sw_set 3 (ew_rooms hi hr (ev_name 0) (h0.web.mono e1) fun r bd H4 e4 N4 fbd fr => ?_))
  have e04 := e1.trans e4
  obtain ⟨wd, cd, cl, RX, ok4, cov4, _, _⟩ := N4
  have R4 := RX.at
  have fbd' : H bd = none := Evl.fresh_back e1 fbd
  refine bw_cons (sw_set 4 (ew_call hfb hr (AVgo (av_cons (ev_name 3) av_nil) fun H5 e5 => ⟨r, rfl, wd, bd, cd, n, W, zeM, cl, RX.mono e5, fun b H6 e6 hb0 => ?_⟩)))
  have e46 := e5.trans e6
  refine bw_cons (sw_set 5 (EVgo ev_int fun H7 e7 => ?_))
  refine bw_cons (sw_whileM PassesOwn.never (fun m σ' H' => ∃ (k : Int) (G : Mx), σ' = [some (.ref wb), some (.ref pf), some (.ref pt), some (.ref r), some (.int (m : Int)), some (.int k)] ∧ RmAt CR H' r bd n W G cl ∧ CovR n W G cl ∧ Flw n W (inP fs) (inP ts) G ∧ Ex H H' ∧ (m = 0 → Gst n W (inP fs) (inP ts) G)) b ⟨_, zeM, rfl, R4.mono (e46.trans e7), cov4, ze_flw h0.web.ok, e04.trans (e46.trans e7), fun h => ⟨ze_flw h0.web.ok, fun v hv => ?_⟩⟩ ?_)
  · cases hv with
    | base hv h1 =>
      cases e : inP ts v with
      | false => rfl
      | true => exact absurd (inP_iff.mp e) (h0.ends.dis v (inP_iff.mp h1))
    | step h1 hv rr =>
      have h2 := hb0 h _ _ h1.lt hv
      have rr' : (0 : Int) < W _ v := rr
      omega
  · rintro m σ' H' ⟨k, G, rfl, R8, c8, f8, e8, g8⟩
    refine TVgo (tv_gt (ev_name 4) ev_int) fun H9 e9 => ?_
    refine ite2 (fun hd => ?_) (fun hd => ?_)
    · have hm : 0 < m := by have := of_decide_eq_true hd; omega
      refine bw_cons (sw_augE 5 rfl (ew_call hfi hr (AVgo (av_cons (ev_name 3) (av_cons (ev_name 1) (av_cons (ev_name 2) (av_cons (ev_name 4) av_nil)))) fun Ha ea => ⟨r, pf, pt, (m : Int), rfl, bd, n, W, G, cl, fs, ts, R8.mono (e9.trans ea), ok4, c8, h0.f.mono ((e8.trans e9).trans ea), h0.t.mono ((e8.trans e9).trans ea), h0.ends, by omega, f8, fun k2 G2 Hb Rb cb fb nob kb => ⟨k2, rfl, ?_⟩⟩)))
      have e0b : Ex H Hb := Km.nil ((Km.of (M := []) ((e8.trans e9).trans ea)).drop kb (by simp [fbd']))
      refine bw_one (sw_set 4 (EVgo (ev_is (w := .int ((m / 2 : Nat) : Int)) (ev_fdiv (ev_name 4) ev_int ⟨by decide, by decide⟩) (by congr 1)) fun Hc ec => ⟨m / 2, by omega, _, G2, rfl, Rb.mono ec, cb, fb, e0b.trans ec, fun h => ?_⟩))
      have : m = 1 := by omega
      subst this
      exact gst_noway fb nob
    · have hm : m = 0 := by
        have : ¬ ((0 : Int) < (m : Int)) := fun z => hd (decide_eq_true z)
        omega
      have R9 := R8.mono e9
      obtain ⟨⟨dx, wd', cd', ob, _⟩, _⟩ := id R9
      refine bw_one (sw_ret (ew_tup (aw_cons (ew_meth0 hfl T.cRooms.cl hr (EVgo (ev_name 3) fun Ha ea => ⟨r, dx, _, rfl, ea _ _ ob, rfl, r, rfl, bd, n, W, G, cl, R9.mono ea, fun v rows Hb eb hv hrows => aw_cons (EVgo (ev_name 5) fun Hc ec => aw_nil ⟨by show 2 ≤ sizeLine; decide, fun p np => ?_⟩)⟩)))))
      exact q p v k rows G _ ((e8.trans e9).trans (((ea.trans eb).trans ec).trans (Ex.new np))) upd_same ((hv.kt (Kt.of ec)).kt (Kt.of (Ex.new np))) hrows (g8 hm)
/-! ### sides -/
theorem Gst.worn {n : Nat} {W F : Mx} {fs ts : List Nat} (w : Wok W) (g : Gst n W (inP fs) (inP ts) F) : 0 ≤ wor n (inP fs) F := by
  obtain ⟨⟨S, _, e⟩, _⟩ := g.least
  rw [e]
  refine sm_nonneg fun i _ => sm_nonneg fun j _ => ?_
  by_cases h : (S i && !S j) = true
  · rw [if_pos h]
    exact w.nn i j
  · rw [if_neg h]
    exact Int.le_refl _
def spLeft (K : PySem.W.Frag) (CR CW : Addr) : Sp := fun vs H Q _ => ∃ wb pf pt y, vs = [.ref wb, .ref pf, .ref pt, y] ∧ ∃ n W fs ts rows F, WFT K CW H wb pf pt n W fs ts ∧ FlAt K H y rows ∧ FlRows n F rows ∧ Gst n W (inP fs) (inP ts) F ∧
  ∀ r bd cl H', Ex H H' → RmAt CR H' r bd n W F cl → ClOk n cl → CovR n W F cl → Q (.ref r) H'
/-! rooms_left: slots 0 web, 1 froms, 2 tos, 3 flow, 4 rooms, 5 place -/
theorem sc_rooms_left : FnScope ["web", "froms", "tos", "flow", "rooms", "place"] ["web", "froms", "tos", "flow"] (defScope s_rooms_left) := ⟨rfl, rfl, rfl, by decide +kernel, rfl, by decide +kernel, by decide +kernel⟩
theorem ok_rooms_left (T : Tops K mg CR CW CN CH) (hae : Has P w K mg base 3 "are_ends" ["web", "froms", "tos"] (spEnds K CW)) (hif : Has P w K mg base 7 "is_flow" ["web", "froms", "tos", "flow"] (spIsFlow K CW)) (hro : Has P w K mg base 4 "rooms_of" ["web", "flow"] (spRoomsOf K CR CW)) (hre : Has P w K mg base 2 "reached" ["rooms", "places"] (spReach K CR Rm)) : Has P w K mg base 8 "rooms_left" ["web", "froms", "tos", "flow"] (spLeft K CR CW) := by
  refine has_of (k := 7) T.rooms_left sc_rooms_left (fun _ _ _ _ _ _ us hl => match us, hl with | [_, _, _, _], _ => rfl) (fun vs H Q E h => by
    obtain ⟨wb, pf, pt, y, rfl, _⟩ := h
    rfl) ?_
  intro f cdv A outer s H0 H vs Q E E0 hr h
  obtain ⟨wb, pf, pt, y, rfl, n, W, fs, ts, rows, F, h0, hfl, hF, hg, q⟩ := h
  have nd := (sc_rooms_left).nd
  have hu64 : (CxD P w K mg base ["web", "froms", "tos", "flow", "rooms", "place"] "rooms_left" s_rooms_left f cdv A outer s H0 E0).A.units + 64 < cLine := hr.units
  refine bw_cons (sw_ifF (tv_is (tv_not (tv_val (ev_call hae hr (av_cons (ev_name 0) (av_cons (ev_name 1) (av_cons (ev_name 2) av_nil))) (fun H1 e1 => ⟨_, _, _, rfl, n, W, fs, ts, h0.web.mono e1, h0.f.mono e1, h0.t.mono e1, h0.ends, rfl⟩)))) rfl) fun H1 e1 => bw_nil ?_)
  refine bw_cons (sw_ifF (tv_is (tv_not (tv_val (ev_call hif hr (av_cons (ev_name 0) (av_cons (ev_name 1) (av_cons (ev_name 2) (av_cons (ev_name 3) av_nil)))) (fun H2 e2 => ⟨_, _, _, _, rfl, n, W, fs, ts, rows, F, h0.web.mono (e1.trans e2), h0.f.mono (e1.trans e2), h0.t.mono (e1.trans e2), h0.ends, hfl.kt (Kt.of (e1.trans e2)), hF, hg.flw, hg.worn h0.web.ok, rfl⟩)))) rfl) fun H2 e2 => bw_nil ?_)
  refine bw_cons (sw_set 4 (ew_call hro hr (AVgo (av_cons (ev_name 0) (av_cons (ev_name 3) av_nil)) fun H3 e3 => ⟨wb, y, rfl, n, W, rows, F, h0.web.mono ((e1.trans e2).trans e3), hfl.kt (Kt.of ((e1.trans e2).trans e3)), hF, hg.flw.anti, fun r bd H4 e4 N4 fbd fr => ?_⟩)))
  have e04 := ((e1.trans e2).trans e3).trans e4
  obtain ⟨cl, R4, ok4, cov4⟩ := N4.at
  refine bw_cons (sw_if (tw_of (pt_cmpR (op_neD hu64) pe_w pe_w (nomark _)) (ew_lcIf (own := [("place", 5)]) (lc_of (iw_T (ew_call hre hr (AVgo (av_cons (ev_name 4) (av_cons (ev_name 1) av_nil)) fun H5 e5 => ⟨r, pf, rfl, bd, n, W, F, cl, fs, R4.mono e5, ok4, cov4, h0.f.mono (e04.trans e5), pw_nd h0.ends.fnd, h0.ends.flt, fun t l H6 e6 ht hup hl => ⟨t, rfl, ⟨_, SqT.of ht⟩, ?_⟩⟩)))))))
  have e06 := e04.trans (e5.trans e6)
  have hll : l.length ≤ 7 := Nat.le_trans (nodup_lt n l (pw_nd hup) fun x hx => ((hl x).mp hx).lt) h0.web.le.2
  have hno : l.filter (fun x => decide (x ∈ ts)) = [] := List.filter_eq_nil_iff.mpr fun x hx => by
    have h1 := hg.no x ((hl x).mp hx)
    cases e : decide (x ∈ ts) with
    | false => simp
    | true =>
      rw [show inP ts x = decide (x ∈ ts) from rfl, e] at h1
      cases h1
  refine lc_goX (l := l) (pf := fun x => decide (x ∈ ts)) (n := (l.map iV).length) (G := fun H => SqT K H t (l.map iV)) (Y := YAt (l.map iV)) (Fx := fun i x _ => x = iV i) (R := fun a y _ => True) (sg := fun i x => [some (.ref wb), some (.ref pf), some (.ref pt), some y, some (.ref r), some x]) walk_tup (fun H7 e7 => SqT.of (e7 _ _ ht)) (by rw [List.length_map]) (by rw [List.length_map]; omega) ?_ (fun _ _ _ _ h _ => h) ?_ (fun _ x => rfl) ?_ ?_ (fun _ _ _ _ h _ => h) ?_
  · rintro i b x H7 H8 hb e7 ⟨rfl, hx⟩
    rw [List.getElem?_map, hb] at hx
    exact ⟨Ex.refl _, (Option.some.inj hx).symm⟩
  · rintro b _ x H7 e7 rfl s0 H0 C clo fp
    exact gv_name 5
  · rintro b _ x H7 e7 rfl
    exact tv_b fun s0 H0 C clo fp => tv_is (tv_inS (x := iV b) (ev_name 5) (ev_name 2) (.inr (h0.t.mono (e06.trans e7)).sq) rfl (flat_iV _)) (in_iV _ _)
  · rintro b _ _ x H7 e7 rfl s0 H0 C clo fp
    exact EX.ev (ev_name 5) fun _ _ => trivial
  · intro d zs H7 hd e7 hzs hall
    have hz0 : zs = [] := by
      have := hall.1
      rw [hno] at this
      exact List.length_eq_zero_iff.mp this
    subst hz0
    refine ELgo (evl_lst av_nil) fun p' H8 np' e8 hp' => ⟨.list [], .list [], .lst (.inl (.inl (e8 _ _ hzs))) .nil, .lst (.inl (.inl hp')) .nil, by decide, by decide, ?_⟩
    refine ⟨_, rfl, ?_⟩
    rw [eqv_nil]
    exact bw_nil (bw_one (sw_ret (EVgo (ev_name 4) fun H9 e9 => q r bd cl H9 (e06.trans (e7.trans (e8.trans e9))) (R4.mono ((e5.trans e6).trans (e7.trans (e8.trans e9)))) ok4 cov4)))
def spNear (K : PySem.W.Frag) (CW : Addr) : Sp := fun vs H Q _ => ∃ wb pf pt y, vs = [.ref wb, .ref pf, .ref pt, y] ∧ ∃ n W fs ts rows F, WFT K CW H wb pf pt n W fs ts ∧ FlAt K H y rows ∧ FlRows n F rows ∧ Gst n W (inP fs) (inP ts) F ∧
  ∀ (t : Addr) (l : List Nat) (H' : Hp), Ex H H' → H' t = some (.tup (l.map iV)) → l.Pairwise (· < ·) → (∀ v, v ∈ l ↔ Rch n (Rm W F) (inP fs) v) → Q (.ref t) H'
/-! near_side: slots 0 web, 1 froms, 2 tos, 3 flow -/
theorem sc_near_side : FnScope ["web", "froms", "tos", "flow"] ["web", "froms", "tos", "flow"] (defScope s_near_side) := ⟨rfl, rfl, rfl, by decide +kernel, rfl, by decide +kernel, by decide +kernel⟩
theorem ok_near_side (T : Tops K mg CR CW CN CH) (hle : Has P w K mg base 8 "rooms_left" ["web", "froms", "tos", "flow"] (spLeft K CR CW)) (hre : Has P w K mg base 2 "reached" ["rooms", "places"] (spReach K CR Rm)) : Has P w K mg base 9 "near_side" ["web", "froms", "tos", "flow"] (spNear K CW) := by
  refine has_of (k := 8) T.near_side sc_near_side (fun _ _ _ _ _ _ us hl => match us, hl with | [_, _, _, _], _ => rfl) (fun vs H Q E h => by
    obtain ⟨wb, pf, pt, y, rfl, _⟩ := h
    rfl) ?_
  intro f cdv A outer s H0 H vs Q E E0 hr h
  obtain ⟨wb, pf, pt, y, rfl, n, W, fs, ts, rows, F, h0, hfl, hF, hg, q⟩ := h
  refine bw_one (sw_ret (ew_call hre hr (aw_cons (ew_call hle hr (AVgo (av_cons (ev_name 0) (av_cons (ev_name 1) (av_cons (ev_name 2) (av_cons (ev_name 3) av_nil)))) fun H1 e1 => ⟨wb, pf, pt, y, rfl, n, W, fs, ts, rows, F, h0.mono e1, hfl.kt (Kt.of e1), hF, hg, fun r bd cl H2 e2 R2 ok2 cov2 => aw_cons (EVgo (ev_name 1) fun H3 e3 => aw_nil ⟨r, pf, rfl, bd, n, W, F, cl, fs, R2.mono e3, ok2, cov2, h0.f.mono (e1.trans (e2.trans e3)), pw_nd h0.ends.fnd, h0.ends.flt, fun t l H4 e4 ht hup hl => q t l H4 ((e1.trans e2).trans (e3.trans e4)) ht hup hl⟩)⟩)))))
def spFar (K : PySem.W.Frag) (CW : Addr) : Sp := fun vs H Q _ => ∃ wb pf pt y, vs = [.ref wb, .ref pf, .ref pt, y] ∧ ∃ n W fs ts rows F, WFT K CW H wb pf pt n W fs ts ∧ FlAt K H y rows ∧ FlRows n F rows ∧ Gst n W (inP fs) (inP ts) F ∧
  ∀ (t : Addr) (l : List Nat) (H' : Hp), Ex H H' → H' t = some (.tup (l.map iV)) → l.Pairwise (· < ·) → (∀ v, v ∈ l ↔ v < n ∧ ¬ Rch n (Rb W F) (inP ts) v) → Q (.ref t) H'
/-! far_side: slots 0 web, 1 froms, 2 tos, 3 flow, 4 barred, 5 place -/
theorem sc_far_side : FnScope ["web", "froms", "tos", "flow", "barred", "place"] ["web", "froms", "tos", "flow"] (defScope s_far_side) := ⟨rfl, rfl, rfl, by decide +kernel, rfl, by decide +kernel, by decide +kernel⟩
theorem ok_far_side (T : Tops K mg CR CW CN CH) (hle : Has P w K mg base 8 "rooms_left" ["web", "froms", "tos", "flow"] (spLeft K CR CW)) (hre : Has P w K mg base 2 "leading" ["rooms", "places"] (spReach K CR Rb)) : Has P w K mg base 9 "far_side" ["web", "froms", "tos", "flow"] (spFar K CW) := by
  refine has_of (k := 8) T.far_side sc_far_side (fun _ _ _ _ _ _ us hl => match us, hl with | [_, _, _, _], _ => rfl) (fun vs H Q E h => by
    obtain ⟨wb, pf, pt, y, rfl, _⟩ := h
    rfl) ?_
  intro f cdv A outer s H0 H vs Q E E0 hr h
  obtain ⟨wb, pf, pt, y, rfl, n, W, fs, ts, rows, F, h0, hfl, hF, hg, q⟩ := h
  have nd := (sc_far_side).nd
  refine bw_cons (sw_set 4 (ew_call hre hr (aw_cons (ew_call hle hr (AVgo (av_cons (ev_name 0) (av_cons (ev_name 1) (av_cons (ev_name 2) (av_cons (ev_name 3) av_nil)))) fun H1 e1 => ⟨wb, pf, pt, y, rfl, n, W, fs, ts, rows, F, h0.mono e1, hfl.kt (Kt.of e1), hF, hg, fun r bd cl H2 e2 R2 ok2 cov2 => aw_cons (EVgo (ev_name 2) fun H3 e3 => aw_nil ⟨r, pt, rfl, bd, n, W, F, cl, ts, R2.mono e3, ok2, cov2, h0.t.mono (e1.trans (e2.trans e3)), pw_nd h0.ends.tnd, h0.ends.tlt, fun t l H4 e4 ht hup hl => ?_⟩)⟩)))))
  have e04 := (e1.trans e2).trans (e3.trans e4)
  obtain ⟨⟨dw, ww, tp, kvs, g, ys, trows, o1, _⟩, _, hle7⟩ := h0.web
  obtain ⟨fm, _, _⟩ := wb_fl T (e04 _ _ o1)
  refine bw_one (sw_ret (ew_Ty call_tuple_of T.b.b_tuple (aw_cons (ELgo (evl_compRIf (n := n) (pf := fun i => !decide (i ∈ l)) (g := iV) [("place", 5)] T.b.b_range (ev_fld (ev_name 0) fm) (by omega) (fun i => [some (.ref wb), some (.ref pf), some (.ref pt), some y, some (.ref t), some (iV i)]) (fun i hi s0 H0 C clo fp => gv_name 5) (fun i => rfl) (fun i hi s0 H0 C clo fp => tv_is (tv_niS (x := iV i) (ev_name 5) (ev_name 4) (.inr (SqT.of ht)) rfl (flat_iV _)) (by rw [in_iV])) (fun i hi _ s0 H0 C clo fp => ev_name 5)) fun c H5 nc e5 hc => aw_nil ⟨c, _, rfl, .inl ⟨.inl (.inl hc), fun t2 ht2 => q t2 ((List.range n).filter fun i => !decide (i ∈ l)) _ (e04.trans (e5.trans (Ex.new ht2))) upd_same ?_ fun v => ?_⟩⟩))))
  · exact List.Pairwise.sublist List.filter_sublist List.pairwise_lt_range
  · rw [List.mem_filter, List.mem_range]
    have := hl v
    simp [this]
end
end Cut


namespace Cut
open PySem PySem.Spec PyProof.Rows L2 Evl
/-! ### xs[i] op= e -/
section
variable {X : Cx} {σ : L2.St} {H : Hp} {pos : Pos} {o i e : Expr} {D : Ends}
def rGetN : V → V → Hp → VK → Prop := fun x y H Q => ∃ (p : Addr) (xs : List V) (j : Nat) (v : V), x = .ref p ∧ y = .int (j : Int) ∧ H p = some (.lst xs) ∧ xs[j]? = some v ∧ Q v H
theorem get_list : PGet X rGetN := by
  intro pins s σ H o i ov iv Q I ro ri h
  obtain ⟨p, xs, j, v, rfl, rfl, hp, hv, q⟩ := h
  cases ro
  obtain ⟨t, rfl⟩ := ri
  obtain ⟨its, r, pl, hz⟩ := I.list (.inl (.inl hp))
  obtain ⟨w, ew, rw'⟩ := r.get hv
  have hl := r.length
  have hn := line63
  have hj := (List.getElem?_eq_some_iff.mp hv).1
  exact wpAny_getItem_list pl.isList (by omega) (by omega) (by simpa using ew) ⟨v, H, I, rw', q⟩
theorem sw_augL {p : Addr} {j : Nat} {n m : Int} {xs : List V} {tpos : Pos} {op : Operator} {f : Int → Int → Int} (hop : PIp X op (ipI f)) (ho : EV X o σ H (.ref p)) (hi : EV X i σ H (.int (j : Int))) (hp : H p = some (.lst xs)) (hj : xs[j]? = some (.int n)) (he : EV X e σ H (.int m)) (q : ∀ H1, Ex H H1 → D.nx σ (upd H1 p (.lst (xs.set j (.int (f n m))))))
    (ha : ∀ ov iv new, augStore i ov iv new = (do holding [new, ov, iv] (setItem ov iv new); release [new, ov, iv] []; pure .next) := by intros; rfl) : SW X (.AugAssign (.Subscript o i tpos) op e pos) D σ H :=
  sw_of (ps_augS (op := op) pe_w pe_w get_list pe_w hop set_list ha) (EVgo (te := EW X o) ho fun H1 e1 => EVgo (te := EW X i) (Evl.Ev.mono e1 hi) fun H2 e2 => ⟨p, xs, j, _, rfl, rfl, e2 _ _ (e1 _ _ hp), hj, EVgo (te := EW X e) (Evl.Ev.mono (e1.trans e2) he) fun H3 e3 => ⟨n, m, rfl, rfl, p, xs, (j : Int), j, rfl, rfl, e3 _ _ (e2 _ _ (e1 _ _ hp)), Evl.ixN_nat (List.getElem?_eq_some_iff.mp hj).1, q H3 ((e1.trans e2).trans e3)⟩⟩)
end
/-! ### preflows and heights -/
def Vl (n : Nat) (W F : Mx) (h : Nat → Nat) : Prop := ∀ u v, u < n → v < n → F u v < W u v → h u ≤ h v + 1
structure Pre (n : Nat) (W : Mx) (fs ts : List Nat) (F : Mx) (h : Nat → Nat) (e : Nat → Int) : Prop where
  anti : Anti F
  cap : ∀ i j, i < n → j < n → F i j ≤ W i j
  ex : ∀ v, v < n → e v = - ot n F v
  pos : ∀ v, v < n → v ∉ fs → 0 ≤ e v
  vl : Vl n W F h
  hf : ∀ v, v ∈ fs → h v = n
  ht : ∀ v, v ∈ ts → h v = 0
section
variable {n : Nat} {W F : Mx} {fs ts : List Nat} {h : Nat → Nat} {e : Nat → Int}
/-- a height that no place has -/
theorem gap (h : Nat → Nat) {n lo : Nat} {a b : Nat} (ha : a < n) (hb : b < n) (h1 : h a = lo) (h2 : lo + n ≤ h b) : ∃ k, lo < k ∧ k < lo + n ∧ ∀ v, v < n → h v ≠ k := by
  refine Classical.byContradiction fun hn => ?_
  have hall : ∀ k, lo < k → k < lo + n → ∃ v, v < n ∧ h v = k := fun k h3 h4 => by
    refine Classical.byContradiction fun hno => hn ⟨k, h3, h4, fun v hv e => hno ⟨v, hv, e⟩⟩
  -- n + 1 heights of n places
  let g : Nat → Nat := fun v => if h v < lo + n then h v else lo + n
  have hs : ∀ x ∈ (List.range (n + 1)).map (fun i => lo + i), x ∈ (List.range n).map g := fun x hx => by
    obtain ⟨i, hi, rfl⟩ := List.mem_map.mp hx
    have hi' := List.mem_range.mp hi
    by_cases c1 : i = 0
    · refine List.mem_map.mpr ⟨a, List.mem_range.mpr ha, ?_⟩
      show (if h a < lo + n then h a else lo + n) = lo + i
      rw [if_pos (by omega)]
      omega
    · by_cases c2 : i = n
      · refine List.mem_map.mpr ⟨b, List.mem_range.mpr hb, ?_⟩
        show (if h b < lo + n then h b else lo + n) = lo + i
        rw [if_neg (by omega)]
        omega
      · obtain ⟨v, hv, e⟩ := hall (lo + i) (by omega) (by omega)
        refine List.mem_map.mpr ⟨v, List.mem_range.mpr hv, ?_⟩
        show (if h v < lo + n then h v else lo + n) = lo + i
        rw [if_pos (by omega)]
        exact e
  have hnd : ((List.range (n + 1)).map fun i => lo + i).Nodup := List.pairwise_map.mpr (List.nodup_range.imp fun {a b} z e => z (by omega))
  have := L2.nat_nodup_len _ _ hnd hs
  rw [List.length_map, List.length_map, List.length_range, List.length_range] at this
  omega
theorem onS_pos {n : Nat} {S : Pl} {f : Nat → Int} (h : ∀ v, v < n → S v = true → 0 ≤ f v) {u : Nat} (hu : u < n) (hs : S u = true) (hp : 0 < f u) : 0 < onS n S f := by
  have := sm_lt (f := fun _ => 0) (g := fun i => if S i then f i else 0) (n := n) (fun i hi => by
    by_cases c : S i = true
    · rw [if_pos c]; exact h i hi c
    · rw [if_neg c]; exact Int.le_refl _) u hu (by rw [if_pos hs]; exact hp)
  rw [sm_zero] at this
  exact this
/-- a place with too much stands below 2 n -/
theorem Pre.low (p : Pre n W fs ts F h e) (w : Wok W) {s : Nat} (hs : s ∈ fs) (hsn : s < n) {u : Nat} (hu : u < n) (huf : u ∉ fs) (he : 0 < e u) : h u < n + n := by
  refine Decidable.byContradiction fun hge => ?_
  obtain ⟨k, k1, k2, k3⟩ := gap h (lo := n) hsn hu (p.hf s hs) (by omega)
  let S : Pl := fun v => decide (k < h v)
  have hS : ∀ v, S v = true ↔ k < h v := fun v => decide_eq_true_iff
  have hfs : ∀ v, S v = true → v ∉ fs := fun v hv z => by
    have h1 := (hS v).mp hv
    rw [p.hf v z] at h1
    omega
  have h1 : 0 < onS n S e := onS_pos (fun v hv hv2 => p.pos v hv (hfs v hv2)) hu ((hS u).mpr (by omega)) he
  have h2 : onS n S e = - acr n S F := by
    rw [← out_acr S p.anti]
    unfold onS
    rw [← sm_neg]
    refine sm_congr fun i hi => ?_
    by_cases c : S i = true
    · rw [if_pos c, if_pos c]
      exact p.ex i hi
    · rw [if_neg c, if_neg c]
      rfl
  have h3 : 0 ≤ acr n S F := sm_nonneg fun i hi => sm_nonneg fun j hj => by
    by_cases c : (S i && !S j) = true
    · rw [if_pos c]
      simp only [Bool.and_eq_true, Bool.not_eq_true'] at c
      have c1 := (hS i).mp c.1
      have c2 : ¬ k < h j := fun z => by
        rw [(hS j).mpr z] at c
        cases c.2
      have c3 := k3 j hj
      have c4 : ¬ F i j < W i j := fun z => by
        have := p.vl i j hi hj z
        omega
      have := w.nn i j
      omega
    · rw [if_neg c]
      exact Int.le_refl _
  omega
/-- .. and can give -/
theorem Pre.gives (p : Pre n W fs ts F h e) (w : Wok W) {u : Nat} (hu : u < n) (he : 0 < e u) : ∃ v, v < n ∧ F u v < W u v := by
  have h1 := p.ex u hu
  have h2 : sm n (F u) < 0 := by
    have : ot n F u = sm n (F u) := rfl
    omega
  obtain ⟨v, hv, h3⟩ := sm_neg_ex h2
  have := w.nn u v
  exact ⟨v, hv, by omega⟩
/-- nothing is too much at inner places: a greatest flow -/
theorem Pre.done (p : Pre n W fs ts F h e) (en : EndsOk n fs ts) (hz : ∀ v, v < n → v ∉ fs → v ∉ ts → ¬ 0 < e v) : Gst n W (inP fs) (inP ts) F := by
  have nb : ∀ {l : List Nat} {v : Nat}, inP l v = false → v ∉ l := fun {l v} h z => by
    rw [inP_iff.mpr z] at h
    cases h
  have hflw : Flw n W (inP fs) (inP ts) F := ⟨p.anti, p.cap, fun v hv h1 h2 => by
    have h3 := hz v hv (nb h1) (nb h2)
    have h4 := p.pos v hv (nb h1)
    have h5 := p.ex v hv
    omega⟩
  obtain ⟨s, hs⟩ := List.exists_mem_of_ne_nil _ en.fne
  obtain ⟨t, ht⟩ := List.exists_mem_of_ne_nil _ en.tne
  obtain ⟨k, k1, k2, k3⟩ := gap h (lo := 0) (en.tlt t ht) (en.flt s hs) (p.ht t ht) (by rw [p.hf s hs]; omega)
  refine gst_of (S := fun v => decide (k < h v)) hflw ⟨fun v hv h1 => ?_, fun v hv h1 => ?_⟩ fun i j hi hj h1 h2 => ?_
  · have := p.hf v (inP_iff.mp h1)
    exact decide_eq_true (by omega)
  · have := p.ht v (inP_iff.mp h1)
    exact decide_eq_false (by omega)
  · have h1' : k < h i := of_decide_eq_true h1
    have h2' : ¬ k < h j := of_decide_eq_false h2
    have h3 := k3 j hj
    have h4 := p.cap i j hi hj
    have h5 : ¬ F i j < W i j := fun z => by
      have := p.vl i j hi hj z
      omega
    omega
def exP (e : Nat → Int) (u v : Nat) (x : Int) : Nat → Int := fun a => e a - (if a = u then x else 0) + (if a = v then x else 0)
/-- a push -/
theorem Pre.push (p : Pre n W fs ts F h e) {u v : Nat} {x : Int} (hu : u < n) (hv : v < n) (huv : u ≠ v) (hx : 0 ≤ x) (hr : x ≤ W u v - F u v) (he : u ∉ fs → x ≤ e u) (hh : h v ≤ h u + 1) : Pre n W fs ts (pt F u v x) h (exP e u v x) := by
  refine ⟨pt_anti p.anti u v x, fun i j hi hj => ?_, fun a ha => ?_, fun a ha haf => ?_, fun a b ha hb hab => ?_, p.hf, p.ht⟩
  · have := p.cap i j hi hj
    unfold pt
    by_cases c1 : i = u ∧ j = v
    · rw [if_pos c1, if_neg (fun z => huv (c1.1.symm.trans z.1)), c1.1, c1.2]
      omega
    · rw [if_neg c1]
      by_cases c2 : i = v ∧ j = u
      · rw [if_pos c2]
        omega
      · rw [if_neg c2]
        omega
  · rw [pt_ot hu hv]
    have := p.ex a ha
    unfold exP
    omega
  · have h1 := p.pos a ha haf
    unfold exP
    by_cases c1 : a = u
    · rw [if_pos c1, if_neg (fun z => huv (c1.symm.trans z))]
      have := he (by rw [← c1]; exact haf)
      rw [c1]
      omega
    · rw [if_neg c1]
      by_cases c2 : a = v
      · rw [if_pos c2]
        omega
      · rw [if_neg c2]
        omega
  · by_cases c1 : a = v ∧ b = u
    · rw [c1.1, c1.2]
      exact hh
    · have h1 : F a b ≤ pt F u v x a b := by
        unfold pt
        rw [if_neg c1]
        by_cases c2 : a = u ∧ b = v
        · rw [if_pos c2]
          omega
        · rw [if_neg c2]
          omega
      exact p.vl a b ha hb (by omega)
/-- a lift -/
theorem Pre.lift (p : Pre n W fs ts F h e) {u : Nat} {m : Nat} (huf : u ∉ fs) (hut : u ∉ ts) (hge : h u ≤ m) (hm : ∀ v, v < n → F u v < W u v → m ≤ h v + 1) (hself : ¬ F u u < W u u) : Pre n W fs ts F (fun a => if a = u then m else h a) e := by
  refine ⟨p.anti, p.cap, p.ex, p.pos, fun a b ha hb hab => ?_, fun v hv => ?_, fun v hv => ?_⟩
  · by_cases c1 : a = u
    · by_cases c2 : b = u
      · rw [c1, c2] at hab
        exact absurd hab hself
      · rw [if_pos c1, if_neg c2]
        rw [c1] at hab
        exact hm b hb hab
    · rw [if_neg c1]
      have := p.vl a b ha hb hab
      by_cases c2 : b = u
      · rw [if_pos c2]
        rw [c2] at this
        omega
      · rw [if_neg c2]
        exact this
  · rw [if_neg fun z => huf (by rw [← z]; exact hv)]
    exact p.hf v hv
  · rw [if_neg fun z => hut (by rw [← z]; exact hv)]
    exact p.ht v hv
end
/-! the measure of the clearings -/
def sH (n : Nat) (h : Nat → Nat) : Nat := ((List.range n).map fun v => 2 * n - h v).sum
def sA (n : Nat) (h : Nat → Nat) (e : Nat → Int) (es : List Nat) : Nat := ((List.range n).map fun v => if 0 < e v ∧ v ∉ es then (n + 1) ^ h v else 0).sum
theorem sum_le_map {l : List Nat} {f g : Nat → Nat} (h : ∀ v ∈ l, f v ≤ g v) : (l.map f).sum ≤ (l.map g).sum := by
  induction l with
  | nil => exact Nat.le_refl _
  | cons a l ih =>
    rw [List.map_cons, List.map_cons, List.sum_cons, List.sum_cons]
    have h1 := h a List.mem_cons_self
    have h2 := ih fun v hv => h v (List.mem_cons_of_mem _ hv)
    omega
theorem sum_lt_map {l : List Nat} {f g : Nat → Nat} (h : ∀ v ∈ l, f v ≤ g v) {u : Nat} (hu : u ∈ l) (hlt : f u < g u) : (l.map f).sum < (l.map g).sum := by
  induction l with
  | nil => cases hu
  | cons a l ih =>
    rw [List.map_cons, List.map_cons, List.sum_cons, List.sum_cons]
    have h1 := h a List.mem_cons_self
    rcases List.mem_cons.mp hu with rfl | hu
    · have h2 := sum_le_map fun v hv => h v (List.mem_cons_of_mem _ hv)
      omega
    · have h2 := ih (fun v hv => h v (List.mem_cons_of_mem _ hv)) hu
      omega
theorem sum_const {l : List Nat} {f : Nat → Nat} {c : Nat} (h : ∀ v ∈ l, f v ≤ c) : (l.map f).sum ≤ l.length * c := by
  induction l with
  | nil => exact Nat.zero_le _
  | cons a l ih =>
    rw [List.map_cons, List.sum_cons, List.length_cons, Nat.succ_mul]
    have h1 := h a List.mem_cons_self
    have h2 := ih fun v hv => h v (List.mem_cons_of_mem _ hv)
    omega
theorem sA_le {n : Nat} {h : Nat → Nat} {e : Nat → Int} {es : List Nat} (hh : ∀ v, v < n → h v ≤ 2 * n) : sA n h e es < (n + 1) ^ (2 * n + 1) := by
  have h1 := sum_const (l := List.range n) (f := fun v => if 0 < e v ∧ v ∉ es then (n + 1) ^ h v else 0) (c := (n + 1) ^ (2 * n)) fun v hv => by
    by_cases c : 0 < e v ∧ v ∉ es
    · rw [if_pos c]
      exact Nat.pow_le_pow_right (by omega) (hh v (List.mem_range.mp hv))
    · rw [if_neg c]
      exact Nat.zero_le _
  rw [List.length_range] at h1
  have h2 : 0 < (n + 1) ^ (2 * n) := Nat.pow_pos (by omega)
  have h3 : (n + 1) ^ (2 * n + 1) = (n + 1) ^ (2 * n) * (n + 1) := Nat.pow_succ ..
  rw [h3, Nat.mul_succ, Nat.mul_comm]
  show ((List.range n).map _).sum < _
  omega
/-- heights only grow, one does: the first part falls -/
theorem sH_lt {n : Nat} {h h' : Nat → Nat} (hle : ∀ v, v < n → h v ≤ h' v) (hb : ∀ v, v < n → h' v ≤ 2 * n) {u : Nat} (hu : u < n) (hlt : h u < h' u) : sH n h' < sH n h :=
  sum_lt_map (fun v hv => by
    have := hle v (List.mem_range.mp hv)
    omega) (List.mem_range.mpr hu) (by
    have := hb u hu
    omega)
/-- no height changes, u is cleared, what is new stands one below u: the second part falls -/
theorem sA_lt {n : Nat} {h : Nat → Nat} {e e' : Nat → Int} {es : List Nat} {u : Nat} (hu : u < n) (h1 : 0 < e u) (h2 : u ∉ es) (h3 : ¬ 0 < e' u) (h4 : ∀ v, v < n → 0 < e' v → v ∉ es → 0 < e v ∨ h v + 1 = h u) : sA n h e' es < sA n h e es := by
  have key : ∀ l : List Nat, l.Nodup → (∀ v ∈ l, v < n) → (l.map fun v => if 0 < e' v ∧ v ∉ es then (n + 1) ^ h v else 0).sum + (if u ∈ l then (n + 1) ^ h u else 0) ≤ (l.map fun v => if 0 < e v ∧ v ∉ es then (n + 1) ^ h v else 0).sum + l.length * (n + 1) ^ (h u - 1) := by
    intro l
    induction l with
    | nil => exact fun _ _ => by simp
    | cons a l ih =>
      intro hn hl
      rw [List.nodup_cons] at hn
      have ih' := ih hn.2 fun v hv => hl v (List.mem_cons_of_mem _ hv)
      rw [List.map_cons, List.map_cons, List.sum_cons, List.sum_cons, List.length_cons, Nat.succ_mul]
      by_cases c : a = u
      · subst c
        rw [if_neg (fun z => h3 z.1), if_pos List.mem_cons_self, if_pos ⟨h1, h2⟩]
        rw [if_neg hn.1] at ih'
        omega
      · have e1 : (u ∈ a :: l) ↔ u ∈ l := ⟨fun z => (List.mem_cons.mp z).resolve_left (Ne.symm c), List.mem_cons_of_mem _⟩
        have e2 : (if u ∈ a :: l then (n + 1) ^ h u else 0) = if u ∈ l then (n + 1) ^ h u else 0 := by
          by_cases z : u ∈ l
          · rw [if_pos (e1.mpr z), if_pos z]
          · rw [if_neg fun q => z (e1.mp q), if_neg z]
        rw [e2]
        have e3 : (if 0 < e' a ∧ a ∉ es then (n + 1) ^ h a else 0) ≤ (if 0 < e a ∧ a ∉ es then (n + 1) ^ h a else 0) + (n + 1) ^ (h u - 1) := by
          by_cases c1 : 0 < e' a ∧ a ∉ es
          · rw [if_pos c1]
            rcases h4 a (hl a List.mem_cons_self) c1.1 c1.2 with z | z
            · rw [if_pos ⟨z, c1.2⟩]
              omega
            · have : h a = h u - 1 := by omega
              rw [this]
              omega
          · rw [if_neg c1]
            exact Nat.zero_le _
        omega
  have k := key (List.range n) List.nodup_range fun v hv => List.mem_range.mp hv
  rw [if_pos (List.mem_range.mpr hu), List.length_range] at k
  unfold sA
  have hp : n * (n + 1) ^ (h u - 1) < (n + 1) ^ h u ∨ ((List.range n).map fun v => if 0 < e' v ∧ v ∉ es then (n + 1) ^ h v else 0).sum < ((List.range n).map fun v => if 0 < e v ∧ v ∉ es then (n + 1) ^ h v else 0).sum := by
    by_cases c : h u = 0
    · right
      refine sum_lt_map (fun v hv => ?_) (List.mem_range.mpr hu) ?_
      · by_cases c1 : 0 < e' v ∧ v ∉ es
        · rcases h4 v (List.mem_range.mp hv) c1.1 c1.2 with z | z
          · rw [if_pos c1, if_pos ⟨z, c1.2⟩]
            exact Nat.le_refl _
          · omega
        · rw [if_neg c1]
          exact Nat.zero_le _
      · rw [if_neg (fun z => h3 z.1), if_pos ⟨h1, h2⟩]
        exact Nat.pow_pos (by omega)
    · left
      obtain ⟨k, hk⟩ : ∃ k, h u = k + 1 := ⟨h u - 1, by omega⟩
      rw [hk, Nat.add_sub_cancel, Nat.pow_succ, Nat.mul_comm]
      have : 0 < (n + 1) ^ k := Nat.pow_pos (by omega)
      rw [Nat.mul_succ]
      omega
  rcases hp with hp | hp
  · omega
  · exact hp
end Cut


namespace Cut
open PySem PySem.Spec PyProof.Rows L2 Evl
def hgFs (r ea ha ta : Addr) : List (Str × V) := [("rooms", .ref r), ("ends", .ref ea), ("heights", .ref ha), ("too_much", .ref ta)]
def eL (n : Nat) (e : Nat → Int) : List V := (List.range n).map fun i => .int (e i)
def hL (n : Nat) (h : Nat → Nat) : List V := eL n fun i => (h i : Int)
theorem eL_get {n : Nat} {e : Nat → Int} {i : Nat} (hi : i < n) : (eL n e)[i]? = some (.int (e i)) := by
  unfold eL
  rw [List.getElem?_map, range_get hi]
  rfl
theorem eL_len {n : Nat} {e : Nat → Int} : (eL n e).length = n := by
  unfold eL
  rw [List.length_map, List.length_range]
theorem eL_set {n : Nat} {e : Nat → Int} {i : Nat} (hi : i < n) (y : Int) : (eL n e).set i (.int y) = eL n fun a => if a = i then y else e a := by
  apply List.ext_getElem?
  intro j
  by_cases hj : j < n
  · rw [eL_get hj]
    by_cases c : j = i
    · rw [c, List.getElem?_set_self (by rw [eL_len]; exact hi), if_pos rfl]
    · rw [List.getElem?_set_ne (Ne.symm c), eL_get hj, if_neg c]
  · rw [List.getElem?_eq_none (by rw [List.length_set, eL_len]; omega), List.getElem?_eq_none (by rw [eL_len]; omega)]
theorem hL_set {n : Nat} {h : Nat → Nat} {i : Nat} (hi : i < n) (m : Nat) : (hL n h).set i (.int (m : Int)) = hL n fun a => if a = i then m else h a := by
  unfold hL
  rw [eL_set hi]
  congr 1
  funext a
  show (if a = i then (m : Int) else (h a : Int)) = (((if a = i then m else h a) : Nat) : Int)
  by_cases c : a = i
  · rw [if_pos c, if_pos c]
  · rw [if_neg c, if_neg c]
structure HgAt (CR CH : Addr) (Hb H : Hp) (hh r bd ea ha ta : Addr) (n : Nat) (W F : Mx) (cl : Nat → List Nat) (h : Nat → Nat) (e : Nat → Int) (es : List Nat) : Prop where
  base : ∃ F0, RmAt CR Hb r bd n W F0 cl
  km : Km [bd] Hb H
  br : BrAt H bd n F
  an : Anti F
  ob : ∃ dx, H hh = some (.ins CH dx (hgFs r ea ha ta))
  hs : H ha = some (.lst (hL n h))
  ts : H ta = some (.lst (eL n e))
  en : H ea = some (.tup (es.map iV))
  f1 : Hb hh = none
  f2 : Hb ha = none
  f3 : Hb ta = none
  ne : ha ≠ ta
section
variable {CR CH : Addr} {Hb H H' : Hp} {hh r bd ea ha ta : Addr} {n : Nat} {W F F' : Mx} {cl : Nat → List Nat} {h h' : Nat → Nat} {e e' : Nat → Int} {es : List Nat}
theorem HgAt.rm (g : HgAt CR CH Hb H hh r bd ea ha ta n W F cl h e es) : RmAt CR H r bd n W F cl := by
  obtain ⟨F0, R⟩ := g.base
  exact R.brought g.km g.br g.an
theorem HgAt.mono (g : HgAt CR CH Hb H hh r bd ea ha ta n W F cl h e es) (x : Ex H H') : HgAt CR CH Hb H' hh r bd ea ha ta n W F cl h e es := by
  obtain ⟨dx, ho⟩ := g.ob
  exact ⟨g.base, g.km.trans (Km.of x), g.br.mono x, g.an, ⟨dx, x _ _ ho⟩, x _ _ g.hs, x _ _ g.ts, x _ _ g.en, g.f1, g.f2, g.f3, g.ne⟩
/-- what is brought is another thing -/
theorem HgAt.put (g : HgAt CR CH Hb H hh r bd ea ha ta n W F cl h e es) (k : Km [bd] H H') (R : RmAt CR H' r bd n W F' cl) : HgAt CR CH Hb H' hh r bd ea ha ta n W F' cl h e es := by
  obtain ⟨dx, ho⟩ := g.ob
  obtain ⟨kb, _, hb, _⟩ := g.br
  have up : ∀ {p : Addr} {o : HO}, H p = some o → (∀ kvs, o ≠ .dT kvs) → H' p = some o := fun {p o} h ho => k _ _ h fun z => by
    rw [List.mem_singleton.mp z, hb] at h
    exact ho _ (Option.some.inj h).symm
  exact ⟨g.base, g.km.trans k, R.br, R.an, ⟨dx, up ho fun _ z => by cases z⟩, up g.hs (fun _ z => by cases z), up g.ts (fun _ z => by cases z), up g.en (fun _ z => by cases z), g.f1, g.f2, g.f3, g.ne⟩
theorem Km.updF {M : List Addr} {H H' : Hp} {p : Addr} {o : HO} (k : Km M H H') (f : H p = none) : Km M H (L2.upd H' p o) := k.drop (N := [p]) ((Km.of (Ex.refl _)).upd (by simp)) fun q hq => .inl (by rw [List.mem_singleton.mp hq]; exact f)
theorem HgAt.setE (g : HgAt CR CH Hb H hh r bd ea ha ta n W F cl h e es) {i : Nat} (hi : i < n) (y : Int) : HgAt CR CH Hb (upd H ta (.lst ((eL n e).set i (.int y)))) hh r bd ea ha ta n W F cl h (fun a => if a = i then y else e a) es := by
  obtain ⟨dx, ho⟩ := g.ob
  obtain ⟨kb, fb, hb, hb'⟩ := g.br
  have up : ∀ {p : Addr} {o : HO}, H p = some o → p ≠ ta → (upd H ta (.lst ((eL n e).set i (.int y)))) p = some o := fun h z => by rw [upd_ne z]; exact h
  refine ⟨g.base, g.km.updF g.f3, ⟨kb, fb, up hb (ne_of hb g.ts (by intro z; cases z)), hb'⟩, g.an, ⟨dx, up ho (ne_of ho g.ts (by intro z; cases z))⟩, up g.hs g.ne, by rw [upd_same, eL_set hi], up g.en (ne_of g.en g.ts (by intro z; cases z)), g.f1, g.f2, g.f3, g.ne⟩
theorem HgAt.setH (g : HgAt CR CH Hb H hh r bd ea ha ta n W F cl h e es) {i : Nat} (hi : i < n) (m : Nat) : HgAt CR CH Hb (upd H ha (.lst ((hL n h).set i (.int (m : Int))))) hh r bd ea ha ta n W F cl (fun a => if a = i then m else h a) e es := by
  obtain ⟨dx, ho⟩ := g.ob
  obtain ⟨kb, fb, hb, hb'⟩ := g.br
  have up : ∀ {p : Addr} {o : HO}, H p = some o → p ≠ ha → (upd H ha (.lst ((hL n h).set i (.int (m : Int))))) p = some o := fun h z => by rw [upd_ne z]; exact h
  refine ⟨g.base, g.km.updF g.f2, ⟨kb, fb, up hb (ne_of hb g.hs (by intro z; cases z)), hb'⟩, g.an, ⟨dx, up ho (ne_of ho g.hs (by intro z; cases z))⟩, by rw [upd_same, hL_set hi], up g.ts (Ne.symm g.ne), up g.en (ne_of g.en g.hs (by intro z; cases z)), g.f1, g.f2, g.f3, g.ne⟩
end
section
variable {P : Program} {w : World} {K : PySem.W.Frag} {mg : Str → Option Value} {base : Heap} {CR CW CN CH : Addr}
theorem hg_fl (T : Tops K mg CR CW CN CH) {H : Hp} {hh dx r ea ha ta : Addr} (h : H hh = some (.ins CH dx (hgFs r ea ha ta))) :
    Fl K H hh "rooms" (.ref r) ∧ Fl K H hh "ends" (.ref ea) ∧ Fl K H hh "heights" (.ref ha) ∧ Fl K H hh "too_much" (.ref ta) :=
  ⟨⟨CH, dx, _, h, T.cHeights.cl, T.nHeights.rooms, rfl⟩, ⟨CH, dx, _, h, T.cHeights.cl, T.nHeights.ends, rfl⟩, ⟨CH, dx, _, h, T.cHeights.cl, T.nHeights.heights, rfl⟩, ⟨CH, dx, _, h, T.cHeights.cl, T.nHeights.too_much, rfl⟩⟩
def spPush (CR CH : Addr) : Sp := fun vs H Q _ => ∃ (hh : Addr) (u v : Nat) (x : Int), vs = [.ref hh, .int (u : Int), .int (v : Int), .int x] ∧ ∃ Hb r bd ea ha ta n W F cl h e es, HgAt CR CH Hb H hh r bd ea ha ta n W F cl h e es ∧ u < n ∧ v < n ∧ u ≠ v ∧
  ∀ H', HgAt CR CH Hb H' hh r bd ea ha ta n W (pt F u v x) cl h (exP e u v x) es → Q .non H'
/-! Heights.push: slots 0 self, 1 place, 2 other, 3 number -/
theorem sc_Heights_push : FnScope ["self", "place", "other", "number"] ["self", "place", "other", "number"] (defScope s_Heights_push) := ⟨rfl, rfl, rfl, by decide +kernel, rfl, by decide +kernel, by decide +kernel⟩
theorem ok_Heights_push (T : Tops K mg CR CW CN CH) (hput : HasM P w K mg base CR 1 "put" ["self", "i", "j", "number"] (spPut CR)) : HasM P w K mg base CH 2 "push" ["self", "place", "other", "number"] (spPush CR CH) := by
  refine hasM_of (k := 1) T.Heights_push sc_Heights_push (fun _ _ _ _ _ _ us hl => match us, hl with | [_, _, _, _], _ => rfl) (fun vs H Q E h => by
    obtain ⟨hh, u, v, x, rfl, _⟩ := h
    rfl) ?_
  intro f cdv A outer s H0 H vs Q E E0 hr h
  obtain ⟨hh, u, v, x, rfl, Hb, r, bd, ea, ha, ta, n, W, F, cl, h, e, es, g, hu, hv, huv, q⟩ := h
  have nd := (sc_Heights_push).nd
  obtain ⟨dx, ho⟩ := g.ob
  obtain ⟨fr, _, _, ft⟩ := hg_fl T ho
  obtain ⟨⟨dxr, wd, cd, obr, _⟩, _⟩ := id g.rm
  refine bw_cons (sw_expr (ew_meth hput T.cRooms.cl hr (EVgo (ev_fld (ev_name 0) fr) fun H1 e1 => ⟨r, dxr, _, rfl, e1 _ _ obr, rfl, AVgo (av_cons (ev_name 1) (av_cons (ev_name 2) (av_cons (ev_name 3) av_nil))) fun H2 e2 => ⟨r, u, v, x, rfl, bd, n, W, F, cl, g.rm.mono (e1.trans e2), hu, hv, huv, fun H3 R3 k3 => ?_⟩⟩)))
  have g3 := (g.mono (e1.trans e2)).put k3 R3
  obtain ⟨dx3, ho3⟩ := g3.ob
  obtain ⟨_, _, _, ft3⟩ := hg_fl T ho3
  refine bw_cons (sw_augL (j := u) ip_sub (ev_fld (ev_name 0) ft3) (ev_name 1) g3.ts (eL_get hu) (ev_name 3) fun H4 e4 => ?_)
  have g4 := (g3.mono e4).setE hu (e u - x)
  generalize upd H4 ta (.lst ((eL n e).set u (.int (e u - x)))) = H5 at g4
  obtain ⟨dx5, ho5⟩ := g4.ob
  obtain ⟨_, _, _, ft5⟩ := hg_fl T ho5
  refine bw_one (sw_augL (j := v) ip_add (ev_fld (ev_name 0) ft5) (ev_name 2) g4.ts (eL_get hv) (ev_name 3) fun H6 e6 => ?_)
  have g6 := (g4.mono e6).setE hv ((if v = u then e u - x else e v) + x)
  have ee : (fun a => if a = v then (if v = u then e u - x else e v) + x else if a = u then e u - x else e a) = exP e u v x := by
    funext a
    unfold exP
    by_cases c1 : a = v
    · rw [if_pos c1, if_neg (Ne.symm huv), if_neg (fun z => huv (z.symm.trans c1)), if_pos c1, c1]
      omega
    · rw [if_neg c1, if_neg c1]
      by_cases c2 : a = u
      · rw [if_pos c2, if_pos c2, c2]
        omega
      · rw [if_neg c2, if_neg c2]
        omega
  rw [ee] at g6
  exact q _ g6
def spLift (CR CH : Addr) : Sp := fun vs H Q _ => ∃ (hh : Addr) (u : Nat), vs = [.ref hh, .int (u : Int)] ∧ ∃ Hb r bd ea ha ta n W F cl h e es, HgAt CR CH Hb H hh r bd ea ha ta n W F cl h e es ∧ ClOk n cl ∧ u < n ∧ (∃ v ∈ cl u, F u v < W u v) ∧
  ∀ (m : Nat) H', (∀ v ∈ cl u, F u v < W u v → m ≤ h v + 1) → (∃ v ∈ cl u, F u v < W u v ∧ m = h v + 1) → HgAt CR CH Hb H' hh r bd ea ha ta n W F cl (fun a => if a = u then m else h a) e es → Q .non H'
theorem ew_add {X : Cx} {σ : L2.St} {H : Hp} {pos : Pos} {a b : Expr} {Q : VK} (h : EW X a σ H fun x H1 => EW X b σ H1 fun y H2 => ∃ i j, x = .int i ∧ y = .int j ∧ Q (.int (i + j)) H2) : EW X (.BinOp a .Add b pos) σ H Q :=
  ew_of (pe_op op_add pe_w pe_w) (EW.mono h fun x H1 h => EW.mono h fun y H2 ⟨i, j, h1, h2, h3⟩ => ⟨i, j, h1, h2, h3⟩)
/-! Heights.lift: slots 0 self, 1 place, 2 lower, 3 other -/
theorem sc_Heights_lift : FnScope ["self", "place", "lower", "other"] ["self", "place"] (defScope s_Heights_lift) := ⟨rfl, rfl, rfl, by decide +kernel, rfl, by decide +kernel, by decide +kernel⟩
theorem ok_Heights_lift (T : Tops K mg CR CW CN CH) (hsp : HasM P w K mg base CR 1 "spare" ["self", "i", "j"] (spSpare CR)) : HasM P w K mg base CH 2 "lift" ["self", "place"] (spLift CR CH) := by
  refine hasM_of (k := 1) T.Heights_lift sc_Heights_lift (fun _ _ _ _ _ _ us hl => match us, hl with | [_, _], _ => rfl) (fun vs H Q E h => by
    obtain ⟨hh, u, rfl, _⟩ := h
    rfl) ?_
  intro f cdv A outer s H0 H vs Q E E0 hr h
  obtain ⟨hh, u, rfl, Hb, r, bd, ea, ha, ta, n, W, F, cl, h, e, es, g, ok, hu, hex, q⟩ := h
  have nd := (sc_Heights_lift).nd
  obtain ⟨dx, ho⟩ := g.ob
  obtain ⟨fr, _, _, _⟩ := hg_fl T ho
  obtain ⟨⟨dxr, wd, cd, obr, _, _, ⟨cs, c1, c2, c3⟩⟩, _, _, hle⟩ := id g.rm
  obtain ⟨_, _, _, fc⟩ := rm_fl T obr
  have huc : u < cs.length := by omega
  have cu := c3 u _ (List.getElem?_eq_getElem huc)
  have hcl : (cl u).length ≤ 7 := Nat.le_trans (nodup_lt n _ (ok.nd u hu) fun x hx => (ok.in_ u x hu hx).1) hle.2
  refine bw_cons (sw_setLcIf 2 (own := [("other", 3)]) (lc_seq (l := cl u) (pf := fun v => decide (0 < W u v - F u v)) (Fx := fun i x _ => x = iV i) (R := fun a y _ => y = iV a) (sg := fun i x => [some (.ref hh), some (.int (u : Int)), none, some x]) (ev_ixLn u (ev_fld (ev_fld (ev_name 0) fr) fc) (ev_name 1) (.inl (.inl c1)) (by rw [List.getElem?_map, List.getElem?_eq_getElem huc]; rfl) rfl) (.inl (.inl (.inl cu))) (by rw [List.length_map]) (by rw [List.length_map]; omega) (fun i b x H2 hb hx e2 => by
      rw [List.getElem?_map, hb] at hx
      exact (Option.some.inj hx).symm) (fun _ _ _ _ h _ => h) ?_ (fun _ _ => rfl) ?_ ?_ (fun _ _ _ _ h _ => h) ?_))
  · rintro b _ x H2 e2 rfl s0 H0 C clo fp
    exact gv_name 3
  · rintro b hb x H2 e2 rfl
    obtain ⟨hbn, _, _⟩ := ok.in_ u b hu hb
    exact tv_b fun s0 H0 C clo fp => tv_gt (ev_meth hsp T.cRooms.cl hr (ev_fld (ev_name 0) (fr.mono e2)) (e2 _ _ obr) rfl (av_cons (ev_name 1) (av_cons (ev_name 3) av_nil)) (fun H3 e3 => ⟨r, u, b, rfl, bd, n, W, F, cl, g.rm.mono (e2.trans e3), hu, hbn, rfl⟩)) ev_int
  · rintro b _ _ x H2 e2 rfl s0 H0 C clo fp
    exact EX.ev (ev_name 3) fun _ _ => rfl
  · intro lo ys H2 hlo e2 hys hall
    obtain rfl := allR_map hall
    generalize hbs : (cl u).filter (fun v => decide (0 < W u v - F u v)) = bs at hall hys
    have mem : ∀ v, v ∈ bs ↔ v ∈ cl u ∧ F u v < W u v := fun v => by
      rw [← hbs, List.mem_filter, decide_eq_true_iff]
      exact ⟨fun z => ⟨z.1, by omega⟩, fun z => ⟨z.1, by omega⟩⟩
    have hbz : bs.length ≤ 7 := by
      rw [← hbs]
      exact Nat.le_trans (List.length_filter_le _ _) hcl
    have hb0 : bs ≠ [] := fun z => by
      obtain ⟨v, h1, h2⟩ := hex
      have := (mem v).mpr ⟨h1, h2⟩
      rw [z] at this
      cases this
    have g2 := g.mono e2
    obtain ⟨dx2, ho2⟩ := g2.ob
    obtain ⟨_, _, fh2, _⟩ := hg_fl T ho2
    refine bw_one (sw_setL (ew_add (EVgo ev_int fun H3 e3 => ew_B (cr_min rfl) T.b.b_min (aw_cons (ELgo (evl_comp (l := bs) (toV := iV) (g := fun v => .int (h v : Int)) (p := lo) [("other", 3)] (ev_name 2) (.inl (.inl (.inl (e3 _ _ hys)))) (by omega) (fun a => [some (.ref hh), some (.int (u : Int)), some (.ref lo), some (iV a)]) (fun a _ s0 H0 C clo fp => gv_name 3) (fun a => rfl) (fun a ha s0 H0 C clo fp => ev_ixLn a (ev_fld (ev_name 0) (fh2.mono e3)) (ev_name 3) (.inl (.inl (e3 _ _ g2.hs))) (eL_get (ok.in_ u a hu ((mem a).mp ha).1).1) rfl)) fun la H4 nla e4 hla => aw_nil ⟨la, bs.map (fun a => (h a : Int)), rfl, .inl (.inl ?_), ?_, fun m hm hmin => ⟨1, m, rfl, rfl, ?_⟩⟩)))))
    · rw [hla, List.map_map]
      rfl
    · rw [List.length_map]
      exact List.length_pos_iff.mpr hb0
    · obtain ⟨b0, hb1, rfl⟩ := List.mem_map.mp hm
      have g4 := g2.mono (e3.trans e4)
      obtain ⟨dx4, ho4⟩ := g4.ob
      obtain ⟨_, _, fh4, _⟩ := hg_fl T ho4
      refine EVgo (ev_fld (ev_name 0) fh4) fun H5 e5 => EVgo (ev_name 1) fun H6 e6 => ⟨ha, _, _, u, rfl, rfl, (g4.mono (e5.trans e6)).hs, Evl.ixN_nat (by show u < (eL n _).length; rw [eL_len]; exact hu), ?_⟩
      have g6 := (g4.mono (e5.trans e6)).setH hu (h b0 + 1)
      have e1' : (1 : Int) + ((h b0 : Nat) : Int) = ((h b0 + 1 : Nat) : Int) := by omega
      rw [e1']
      refine q (h b0 + 1) _ (fun v hv hr => ?_) ⟨b0, ((mem b0).mp hb1).1, ((mem b0).mp hb1).2, rfl⟩ g6
      have := hmin (h v : Int) (List.mem_map.mpr ⟨v, (mem v).mpr ⟨hv, hr⟩, rfl⟩)
      omega
end
end Cut


namespace Cut
open PySem PySem.Spec PyProof.Rows L2 Evl
/-- how a clearing of u goes on -/
def Clr (n : Nat) (es : List Nat) (u : Nat) (h0 : Nat → Nat) (e0 : Nat → Int) (h : Nat → Nat) (e : Nat → Int) : Prop :=
  (h = h0 ∧ ∀ v, v < n → 0 < e v → v ∉ es → 0 < e0 v ∨ h0 v + 1 = h0 u) ∨ ((∀ v, v < n → h0 v ≤ h v) ∧ ∃ w, w < n ∧ h0 w < h w)
section
variable {P : Program} {w : World} {K : PySem.W.Frag} {mg : Str → Option Value} {base : Heap} {CR CW CN CH : Addr}
def spClear (CR CH : Addr) : Sp := fun vs H Q _ => ∃ (hh : Addr) (u : Nat), vs = [.ref hh, .int (u : Int)] ∧ ∃ Hb r bd ea ha ta n W F cl h e fs ts, HgAt CR CH Hb H hh r bd ea ha ta n W F cl h e (fs ++ ts) ∧ ClOk n cl ∧ CovR n W F cl ∧ Wok W ∧ EndsOk n fs ts ∧ Pre n W fs ts F h e ∧ (∀ v, v < n → h v ≤ 2 * n) ∧ u < n ∧ u ∉ fs ++ ts ∧
  ∀ F' h' e' H', HgAt CR CH Hb H' hh r bd ea ha ta n W F' cl h' e' (fs ++ ts) → CovR n W F' cl → Pre n W fs ts F' h' e' → (∀ v, v < n → h' v ≤ 2 * n) → ¬ 0 < e' u → Clr n (fs ++ ts) u h e h' e' → Q .non H'
theorem CovR.pt {n : Nat} {W F : Mx} {cl : Nat → List Nat} (ok : ClOk n cl) (c : CovR n W F cl) {u v : Nat} (hu : u < n) (hv : v ∈ cl u) (x : Int) : CovR n W (pt F u v x) cl := fun a b ha hb h => by
  by_cases c1 : a = u ∧ b = v
  · rw [c1.1, c1.2]
    exact hv
  · by_cases c2 : a = v ∧ b = u
    · rw [c2.1, c2.2]
      exact (ok.in_ u v hu hv).2.2
    · refine c a b ha hb ?_
      have e : Cut.pt F u v x a b = F a b := by
        unfold Cut.pt
        rw [if_neg c1, if_neg c2]
        omega
      rw [e] at h
      exact h
/-! Heights.clear: slots 0 self, 1 place, 2 other, 3 room -/
theorem sc_Heights_clear : FnScope ["self", "place", "other", "room"] ["self", "place"] (defScope s_Heights_clear) := ⟨rfl, rfl, rfl, by decide +kernel, rfl, by decide +kernel, by decide +kernel⟩
theorem ok_Heights_clear (T : Tops K mg CR CW CN CH) (hsp : HasM P w K mg base CR 1 "spare" ["self", "i", "j"] (spSpare CR)) (hpu : HasM P w K mg base CH 2 "push" ["self", "place", "other", "number"] (spPush CR CH)) (hli : HasM P w K mg base CH 2 "lift" ["self", "place"] (spLift CR CH)) : HasM P w K mg base CH 3 "clear" ["self", "place"] (spClear CR CH) := by
  refine hasM_of (k := 2) T.Heights_clear sc_Heights_clear (fun _ _ _ _ _ _ us hl => match us, hl with | [_, _], _ => rfl) (fun vs H Q E h => by
    obtain ⟨hh, u, rfl, _⟩ := h
    rfl) ?_
  intro f cdv A outer s H0 H vs Q E E0 hr h
  obtain ⟨hh, u, rfl, Hb, r, bd, ea, ha, ta, n, W, F, cl, h, e, fs, ts, g, ok, cov, wok, en, pre, hb, hu, hue, q⟩ := h
  have nd := (sc_Heights_clear).nd
  have huf : u ∉ fs := fun z => hue (List.mem_append_left _ z)
  have hut : u ∉ ts := fun z => hue (List.mem_append_right _ z)
  refine bw_one (sw_whileM PassesOwn.never (fun m σ' H' => ∃ (zo zr : Option V) (F : Mx) (h' : Nat → Nat) (e' : Nat → Int), σ' = [some (.ref hh), some (.int (u : Int)), zo, zr] ∧ HgAt CR CH Hb H' hh r bd ea ha ta n W F cl h' e' (fs ++ ts) ∧ CovR n W F cl ∧ Pre n W fs ts F h' e' ∧ (∀ v, v < n → h' v ≤ 2 * n) ∧ Clr n (fs ++ ts) u h e h' e' ∧ m = if 0 < e' u then 1 + (2 * n - h' u) else 0) _ ⟨_, _, F, h, e, rfl, g, cov, pre, hb, .inl ⟨rfl, fun v _ h1 _ => .inl h1⟩, rfl⟩ ?_)
  rintro m σ' H' ⟨zo, zr, F1, h1, e1, rfl, g1, cov1, pre1, hb1, clr1, rfl⟩
  obtain ⟨dx, ho⟩ := g1.ob
  obtain ⟨_, _, _, ft⟩ := hg_fl T ho
  refine TVgo (tv_gt (ev_ixLn u (ev_fld (ev_name 0) ft) (ev_name 1) (.inl (.inl g1.ts)) (eL_get hu) rfl) ev_int) fun H2 x2 => ?_
  refine ite2 (fun hd => ?_) (fun hd => ?_)
  · have hpos : 0 < e1 u := of_decide_eq_true hd
    rw [if_pos hpos]
    have g2 := g1.mono x2
    obtain ⟨dx2, ho2⟩ := g2.ob
    obtain ⟨fr2, _, _, _⟩ := hg_fl T ho2
    obtain ⟨F0, Rb⟩ := g2.base
    obtain ⟨⟨dxr, wd, cd, obr, _, _, ⟨cs, c1, c2, c3⟩⟩, ⟨kb0, fb0, hb0, _⟩, _, hle⟩ := id Rb
    have keep : ∀ {Hx : Hp} {p : Addr} {o : HO}, Km [bd] Hb Hx → Hb p = some o → (∀ kvs, o ≠ .dT kvs) → Hx p = some o := fun {Hx p o} k h ho => k _ _ h fun z => by
      rw [List.mem_singleton.mp z, hb0] at h
      exact ho _ (Option.some.inj h).symm
    have huc : u < cs.length := by omega
    have cu := c3 u _ (List.getElem?_eq_getElem huc)
    have obr2 := keep g2.km obr (fun _ z => by cases z)
    refine bw_cons (sw_forL PassesOwn.never (p := cs[u]) (xs := (cl u).map iV) (ev_ixLn u (ev_fld (ev_fld (ev_name 0) fr2) (rm_fl T obr2).2.2.2) (ev_name 1) (.inl (.inl (keep g2.km c1 (fun _ z => by cases z)))) (by rw [List.getElem?_map, List.getElem?_eq_getElem huc]; rfl) rfl) (.inl (.inl (keep g2.km cu (fun _ z => by cases z)))) (fun i σ' H' => ∃ (zo zr : Option V) (F2 : Mx) (e2 : Nat → Int), σ' = [some (.ref hh), some (.int (u : Int)), zo, zr] ∧ HgAt CR CH Hb H' hh r bd ea ha ta n W F2 cl h1 e2 (fs ++ ts) ∧ CovR n W F2 cl ∧ Pre n W fs ts F2 h1 e2 ∧ Clr n (fs ++ ts) u h e h1 e2 ∧ ∀ v ∈ (cl u).take i, 0 < e2 u → F2 u v < W u v → h1 u ≠ h1 v + 1) ?_ ?_ ?_ ?_)
    · intro H3 x3
      exact ⟨_, _, F1, e1, rfl, g2.mono x3, cov1, pre1, clr1, fun v hv => by simp at hv⟩
    · rintro i σ' H'' _ ⟨_, _, _, _, _, g3, _⟩
      exact .inl (.inl (keep g3.km cu (fun _ z => by cases z)))
    · rintro i x σ' H'' hi ⟨zo, zr, F2, e2, rfl, g3, cov3, pre3, clr3, sat3⟩
      rw [List.getElem?_map] at hi
      obtain ⟨v, hv, rfl⟩ : ∃ v, (cl u)[i]? = some v ∧ iV v = x := by
        cases e : (cl u)[i]? with
        | none => rw [e] at hi; cases hi
        | some v =>
          rw [e] at hi
          exact ⟨v, rfl, Option.some.inj hi⟩
      obtain ⟨hvn, hvu, huv⟩ := ok.in_ _ v hu (List.mem_of_getElem? hv)
      obtain ⟨dx3, ho3⟩ := g3.ob
      obtain ⟨fr3, _, _, _⟩ := hg_fl T ho3
      have R3 := g3.rm
      have obr3 := keep g3.km obr (fun _ z => by cases z)
      refine gw_name 2 (bw_cons (sw_set 3 (EVgo (ev_meth hsp T.cRooms.cl hr (ev_fld (ev_name 0) fr3) obr3 rfl (av_cons (ev_name 1) (av_cons (ev_name 2) av_nil)) (fun H4 x4 => ⟨r, u, v, rfl, bd, n, W, F2, cl, R3.mono x4, hu, hvn, rfl⟩)) fun H4 x4 => ?_)))
      have g4 := g3.mono x4
      obtain ⟨dx4, ho4⟩ := g4.ob
      obtain ⟨_, _, fh4, ft4⟩ := hg_fl T ho4
      refine bw_one (sw_ifV (k := decide (0 < W u v - F2 u v) && decide (V.int (h1 u : Int) = V.int ((h1 v : Int) + 1))) (tv_bool (wv_and (tv_gt (ev_name 3) ev_int) fun _ => wv_one_and (tv_eq (ev_ixLn u (ev_fld (ev_name 0) fh4) (ev_name 1) (.inl (.inl g4.hs)) (eL_get hu) rfl) (ev_add (ev_ixLn v (ev_fld (ev_name 0) fh4) (ev_name 2) (.inl (.inl g4.hs)) (eL_get hvn) rfl) ev_int)))) ?_ ?_)
      · intro hb2 H5 x5
        rw [Bool.and_eq_true] at hb2
        have hroom : 0 < W u v - F2 u v := of_decide_eq_true hb2.1
        have hadm : h1 u = h1 v + 1 := by
          have := V.int.inj (of_decide_eq_true hb2.2)
          omega
        have g5 := g4.mono x5
        obtain ⟨dx5, ho5⟩ := g5.ob
        obtain ⟨_, _, _, ft5⟩ := hg_fl T ho5
        have he0 := pre3.pos u hu huf
        refine bw_one (sw_expr (ew_meth hpu T.cHeights.cl hr (EVgo (ev_name 0) fun H6 x6 => ⟨hh, dx5, _, rfl, x6 _ _ ho5, rfl, AVgo (av_cons (ev_name 1) (av_cons (ev_name 2) (av_cons (ev_min2 T.b.b_min (ev_name 3) (ev_ixLn u (ev_fld (ev_name 0) (ft5.mono x6)) (ev_name 1) (.inl (.inl (x6 _ _ g5.ts))) (eL_get hu) rfl)) av_nil))) fun H7 x7 => ⟨hh, u, v, _, rfl, Hb, r, bd, ea, ha, ta, n, W, F2, cl, h1, e2, fs ++ ts, g5.mono (x6.trans x7), hu, hvn, Ne.symm hvu, fun H8 g8 => ?_⟩⟩)))
        have hx1 : min (W u v - F2 u v) (e2 u) ≤ W u v - F2 u v := Int.min_le_left _ _
        have hx2 : min (W u v - F2 u v) (e2 u) ≤ e2 u := Int.min_le_right _ _
        have hx0 : 0 ≤ min (W u v - F2 u v) (e2 u) := by omega
        have hx3 : min (W u v - F2 u v) (e2 u) = W u v - F2 u v ∨ min (W u v - F2 u v) (e2 u) = e2 u := by omega
        generalize min (W u v - F2 u v) (e2 u) = x at g8 hx1 hx2 hx0 hx3
        refine ⟨_, _, _, _, rfl, g8, cov3.pt ok hu (List.mem_of_getElem? hv) x, pre3.push hu hvn (Ne.symm hvu) hx0 hx1 (fun _ => hx2) (by omega), ?_, fun v' hv' hp' hr' => ?_⟩
        · rcases clr3 with ⟨k1, k2⟩ | k
          · refine .inl ⟨k1, fun a han hpa hae => ?_⟩
            unfold exP at hpa
            by_cases c1 : a = v
            · right
              rw [c1, ← k1]
              exact hadm.symm
            · rw [if_neg c1] at hpa
              refine k2 a han ?_ hae
              by_cases c2 : a = u
              · rw [if_pos c2] at hpa
                rw [c2] at hpa ⊢
                omega
              · rw [if_neg c2] at hpa
                omega
          · exact .inr k
        · have eu : exP e2 u v x u = e2 u - x := by
            unfold exP
            rw [if_pos rfl, if_neg (Ne.symm hvu)]
            omega
          rw [eu] at hp'
          rw [take_snoc hv] at hv'
          by_cases c : v' = v
          · exfalso
            rw [c] at hr'
            unfold pt at hr'
            rw [if_pos ⟨rfl, rfl⟩, if_neg (fun z => hvu z.1.symm)] at hr'
            omega
          · have hv2 : v' ∈ (cl u).take i := (List.mem_append.mp hv').resolve_right fun z => c (List.mem_singleton.mp z)
            refine sat3 v' hv2 (by omega) ?_
            unfold pt at hr'
            rw [if_neg (fun z => c z.2), if_neg (fun z => hvu z.1.symm)] at hr'
            omega
      · intro hb2 H5 x5
        refine bw_nil ⟨_, _, F2, e2, rfl, g4.mono x5, cov3, pre3, clr3, fun v' hv' hp' hr' hh' => ?_⟩
        rw [take_snoc hv] at hv'
        rcases List.mem_append.mp hv' with z | z
        · exact sat3 v' z hp' hr' hh'
        · rw [List.mem_singleton.mp z] at hr' hh'
          rw [decide_eq_true (show 0 < W u v - F2 u v by omega), decide_eq_true (show V.int (h1 u : Int) = V.int ((h1 v : Int) + 1) by congr 1; omega)] at hb2
          cases hb2
    · rintro σ' H'' ⟨zo, zr, F2, e2, rfl, g3, cov3, pre3, clr3, sat3⟩
      rw [List.length_map, List.take_length] at sat3
      obtain ⟨dx3, ho3⟩ := g3.ob
      obtain ⟨_, _, _, ft3⟩ := hg_fl T ho3
      refine bw_one (sw_ifV (tv_gt (ev_ixLn u (ev_fld (ev_name 0) ft3) (ev_name 1) (.inl (.inl g3.ts)) (eL_get hu) rfl) ev_int) ?_ ?_)
      · intro hb2 H4 x4
        have hp2 : 0 < e2 u := of_decide_eq_true hb2
        have g4 := g3.mono x4
        obtain ⟨dx4, ho4⟩ := g4.ob
        have hres : ∀ v, v < n → F2 u v < W u v → v ∈ cl u := fun v hv hr => cov3 u v hu hv (by omega)
        obtain ⟨v0, hv0, hr0⟩ := pre3.gives wok hu hp2
        refine bw_one (sw_expr (ew_meth hli T.cHeights.cl hr (EVgo (ev_name 0) fun H5 x5 => ⟨hh, dx4, _, rfl, x5 _ _ ho4, rfl, AVgo (av_cons (ev_name 1) av_nil) fun H6 x6 => ⟨hh, u, rfl, Hb, r, bd, ea, ha, ta, n, W, F2, cl, h1, e2, fs ++ ts, g4.mono (x5.trans x6), ok, hu, ⟨v0, hres v0 hv0 hr0, hr0⟩, fun m H7 hm1 hm2 g7 => ?_⟩⟩)))
        obtain ⟨v1, hv1, hr1, hm⟩ := hm2
        obtain ⟨hv1n, _, _⟩ := ok.in_ u v1 hu hv1
        have hlt : h1 u < m := by
          have k1 := pre3.vl u v1 hu hv1n hr1
          have k2 := sat3 v1 hv1 hp2 hr1
          omega
        have hself : ¬ F2 u u < W u u := by
          rw [anti_self pre3.anti u, wok.dia u]
          omega
        have pre7 := pre3.lift huf hut (m := m) (by omega) (fun v hv hr => hm1 v (hres v hv hr) hr) hself
        obtain ⟨s0, hs0⟩ := List.exists_mem_of_ne_nil _ en.fne
        have hlow := pre7.low wok hs0 (en.flt s0 hs0) hu huf hp2
        have hum : (if u = u then m else h1 u) = m := if_pos rfl
        replace hlow : (if u = u then m else h1 u) < n + n := hlow
        rw [hum] at hlow
        refine ⟨_, ?_, _, _, F2, _, e2, rfl, g7, cov3, pre7, fun v hv => ?_, .inr ⟨fun v hv => ?_, u, hu, ?_⟩, rfl⟩
        · show (if 0 < e2 u then 1 + (2 * n - (if u = u then m else h1 u)) else 0) < _
          rw [if_pos hp2, hum]
          omega
        · show (if v = u then m else h1 v) ≤ 2 * n
          by_cases c : v = u
          · rw [if_pos c]
            omega
          · rw [if_neg c]
            exact hb1 v hv
        · show h v ≤ (if v = u then m else h1 v)
          have hh1 : h v ≤ h1 v := by
            rcases clr3 with ⟨k1, _⟩ | ⟨k, _⟩
            · rw [k1]
              exact Nat.le_refl _
            · exact k v hv
          by_cases c : v = u
          · rw [if_pos c]
            rw [c] at hh1 ⊢
            omega
          · rw [if_neg c]
            exact hh1
        · show h u < (if u = u then m else h1 u)
          rw [hum]
          have hh1 : h u ≤ h1 u := by
            rcases clr3 with ⟨k1, _⟩ | ⟨k, _⟩
            · rw [k1]
              exact Nat.le_refl _
            · exact k u hu
          omega
      · intro hb2 H4 x4
        have hp2 : ¬ 0 < e2 u := of_decide_eq_false hb2
        exact bw_nil ⟨_, by rw [if_neg hp2]; omega, _, _, F2, h1, e2, rfl, g3.mono x4, cov3, pre3, hb1, clr3, rfl⟩
  · have hp2 : ¬ 0 < e1 u := fun z => hd (decide_eq_true z)
    exact q F1 h1 e1 H2 (g1.mono x2) cov1 pre1 hb1 hp2 clr1
def spWaiting (CR CH : Addr) : Sp := fun vs H Q _ => ∃ (hh : Addr), vs = [.ref hh] ∧ ∃ Hb r bd ea ha ta n W F cl h e es, HgAt CR CH Hb H hh r bd ea ha ta n W F cl h e es ∧
  (∀ u H', Ex H H' → u < n → 0 < e u → u ∉ es → Q (.int (u : Int)) H') ∧ ∀ H', Ex H H' → (∀ u, u < n → ¬ (0 < e u ∧ u ∉ es)) → Q .non H'
/-! Heights.waiting: slots 0 self, 1 place -/
theorem sc_Heights_waiting : FnScope ["self", "place"] ["self"] (defScope s_Heights_waiting) := ⟨rfl, rfl, rfl, by decide +kernel, rfl, by decide +kernel, by decide +kernel⟩
theorem ok_Heights_waiting (T : Tops K mg CR CW CN CH) : HasM P w K mg base CH 1 "waiting" ["self"] (spWaiting CR CH) := by
  refine hasM_of (k := 0) T.Heights_waiting sc_Heights_waiting (fun _ _ _ _ _ _ us hl => match us, hl with | [_], _ => rfl) (fun vs H Q E h => by
    obtain ⟨hh, rfl, _⟩ := h
    rfl) ?_
  intro f cdv A outer s H0 H vs Q E E0 hr h
  obtain ⟨hh, rfl, Hb, r, bd, ea, ha, ta, n, W, F, cl, h, e, es, g, q1, q2⟩ := h
  have nd := (sc_Heights_waiting).nd
  obtain ⟨dx, ho⟩ := g.ob
  obtain ⟨fr, fe, _, ft⟩ := hg_fl T ho
  obtain ⟨⟨dxr, wd, cd, obr, _⟩, _, _, hle⟩ := id g.rm
  refine bw_cons (sw_forR1 PassesOwn.never T.b.b_range (n := n) (ev_fld (ev_fld (ev_name 0) fr) (rm_fl T obr).1) (by omega) (fun i σ' H' => ∃ z : Option V, σ' = [some (.ref hh), z] ∧ Ex H H' ∧ ∀ u, u < i → ¬ (0 < e u ∧ u ∉ es)) (fun H1 e1 => ⟨_, rfl, e1, fun u hu => by omega⟩) ?_ ?_)
  · rintro i σ' H' hi ⟨z, rfl, e1, hno⟩
    refine gw_name 1 (bw_one (sw_ifV (k := decide (0 < e i) && !decide (i ∈ es)) (tv_bool (wv_and (tv_gt (ev_ixLn i (ev_fld (ev_name 0) (ft.mono e1)) (ev_name 1) (.inl (.inl (e1 _ _ g.ts))) (eL_get hi) rfl) ev_int) fun _ => wv_one_and (tv_is (tv_niS (x := iV i) (ev_name 1) (ev_fld (ev_name 0) (fe.mono e1)) (.inr (SqT.of (e1 _ _ g.en))) rfl (flat_iV _)) (by rw [in_iV])))) ?_ ?_))
    · intro hb H2 e2
      simp only [Bool.and_eq_true, Bool.not_eq_true', decide_eq_true_eq, decide_eq_false_iff_not] at hb
      exact bw_one (sw_ret (EVgo (ev_name 1) fun H3 e3 => q1 i H3 (e1.trans (e2.trans e3)) hi hb.1 hb.2))
    · intro hb H2 e2
      refine bw_nil ⟨_, rfl, e1.trans e2, fun u hu hc => ?_⟩
      by_cases c : u = i
      · rw [c] at hc
        rw [decide_eq_true hc.1, decide_eq_false hc.2] at hb
        cases hb
      · exact hno u (by omega) hc
  · rintro σ' H' ⟨z, rfl, e1, hno⟩
    exact bw_one (sw_ret (EVgo ev_non fun H2 e2 => q2 H2 (e1.trans e2) hno))
end
end Cut


namespace Cut
open PySem PySem.Spec PyProof.Rows L2 Evl
theorem wipe_rep {n : Nat} {x : V} : (List.replicate n [x]).flatten = (List.range n).map fun _ => x := by
  induction n with
  | zero => rfl
  | succ n ih => rw [List.replicate_succ, List.flatten_cons, ih, List.range_succ_eq_map, List.map_cons, List.map_map]; rfl
section
variable {X : Cx} {σ : L2.St} {H : Hp} {pos : Pos} {a b : Expr} {Q : VK}
/-- [x] * n, a new list -/
theorem ew_rep {p2 : Pos} {e : Expr} {v : V} {n : Nat} (he : EV X e σ H v) (hn : n ≤ 1000) (hb : ∀ H1, Ex H H1 → EV X b σ H1 (.int (n : Int))) (q : ∀ p H1, Ex H H1 → H p = none → H1 p = some (.lst ((List.range n).map fun _ => v)) → Q (.ref p) H1) (hst : starEach [e] X.env = (false, eval e X.env) :: starEach [] X.env := by rfl) : EW X (.BinOp (.List [e] p2) .Mult b pos) σ H Q :=
  ew_of (pe_op op_rep pe_w pe_w) (ELgo (te := EW X _) (evl_lst (av_cons he av_nil hst)) fun l H1 nl e1 hl => EVgo (te := EW X b) (hb H1 e1) fun H2 e2 => ⟨l, _, [v], rfl, rfl, e2 _ _ hl, by omega, by omega, by
    show 1 * ((n : Int).toNat) ≤ sizeLine
    rw [Int.toNat_natCast, Nat.one_mul]
    exact Evl.sz_of (by omega), fun p np => q p _ ((e1.trans e2).trans (Ex.new np)) (Evl.fresh_back (e1.trans e2) np) (by rw [upd_same, Int.toNat_natCast, wipe_rep])⟩)
theorem ew_catT (h : EW X a σ H fun x H1 => EW X b σ H1 fun y H2 => rCatT X.K x y H2 Q) : EW X (.BinOp a .Add b pos) σ H Q := ew_of (pe_op op_catT pe_w pe_w) h
end
section
variable {P : Program} {w : World} {K : PySem.W.Frag} {mg : Str → Option Value} {base : Heap} {CR CW CN CH : Addr}
def spHgInit (K : PySem.W.Frag) (CR CH : Addr) : Sp := fun vs H Q _ => ∃ hh r pf pt, vs = [.ref hh, .ref r, .ref pf, .ref pt] ∧ ∃ Hb dx bd n W cl fs ts, RmAt CR Hb r bd n W zeM cl ∧ Ex Hb H ∧ Hb hh = none ∧ H hh = some (.ins CH dx []) ∧ Tp K Hb pf (fs.map iV) ∧ Tp K Hb pt (ts.map iV) ∧ EndsOk n fs ts ∧ Wok W ∧ ClOk n cl ∧ CovR n W zeM cl ∧
  ∀ H' ea ha ta F h e, HgAt CR CH Hb H' hh r bd ea ha ta n W F cl h e (fs ++ ts) → CovR n W F cl → Pre n W fs ts F h e → (∀ v, v < n → h v ≤ 2 * n) → Q .non H'
/-- what has been brought out of the froms -/
structure Sat (n : Nat) (W : Mx) (fs : List Nat) (F : Mx) : Prop where
  anti : Anti F
  same : ∀ a b, (a ∈ fs ↔ b ∈ fs) → F a b = 0
  out : ∀ a b, a ∈ fs → b ∉ fs → F a b = 0 ∨ F a b = W a b
theorem Sat.push {n : Nat} {W F : Mx} {fs : List Nat} (s : Sat n W fs F) {u v : Nat} (hu : u ∈ fs) (hv : v ∉ fs) : Sat n W fs (pt F u v (W u v - F u v)) ∧ pt F u v (W u v - F u v) u v = W u v ∧ ∀ a b, a ∈ fs → b ∉ fs → F a b = W a b → pt F u v (W u v - F u v) a b = W a b := by
  have hne : u ≠ v := fun z => hv (z ▸ hu)
  have huv : pt F u v (W u v - F u v) u v = W u v := by
    unfold pt
    rw [if_pos ⟨rfl, rfl⟩, if_neg (fun z => hne z.1)]
    omega
  have oth : ∀ a b, ¬ (a = u ∧ b = v) → ¬ (a = v ∧ b = u) → pt F u v (W u v - F u v) a b = F a b := fun a b c1 c2 => by
    unfold pt
    rw [if_neg c1, if_neg c2]
    omega
  refine ⟨⟨pt_anti s.anti u v _, fun a b hab => ?_, fun a b ha hb => ?_⟩, huv, fun a b ha hb e => ?_⟩
  · rw [oth a b (fun z => hv (z.2 ▸ hab.mp (z.1 ▸ hu))) (fun z => hv (z.1 ▸ hab.mpr (z.2 ▸ hu)))]
    exact s.same a b hab
  · by_cases c : a = u ∧ b = v
    · rw [c.1, c.2]
      exact .inr huv
    · rw [oth a b c (fun z => hv (z.1 ▸ ha))]
      exact s.out a b ha hb
  · by_cases c : a = u ∧ b = v
    · rw [c.1, c.2]
      exact huv
    · rw [oth a b c (fun z => hv (z.1 ▸ ha))]
      exact e
/-! Heights.__init__: slots 0 self, 1 rooms, 2 froms, 3 tos, 4 place, 5 other -/
theorem sc_Heights_init__ : FnScope ["self", "rooms", "froms", "tos", "place", "other"] ["self", "rooms", "froms", "tos"] (defScope s_Heights_init__) := ⟨rfl, rfl, rfl, by decide +kernel, rfl, by decide +kernel, by decide +kernel⟩
theorem ok_Heights_init (T : Tops K mg CR CW CN CH) (hsp : HasM P w K mg base CR 1 "spare" ["self", "i", "j"] (spSpare CR)) (hpu : HasM P w K mg base CH 2 "push" ["self", "place", "other", "number"] (spPush CR CH)) : HasC P w K mg base CH 3 "Heights" ["self", "rooms", "froms", "tos"] (spHgInit K CR CH) := by
  refine hasC_of (k := 2) T.cHeights sc_Heights_init__ (fun _ _ _ _ _ _ us hl => match us, hl with | [_, _, _, _], _ => rfl) (fun vs H Q E h => by
    obtain ⟨hh, r, pf, pt, rfl, _⟩ := h
    rfl) ?_
  intro f cdv A outer s H0 H vs Q E E0 hr h
  obtain ⟨hh, r, pf, pt, rfl, Hb, dx, bd, n, W, cl, fs, ts, Rb, xb, fhh, ho, hfs, hts, en, wok, ok, cov, q⟩ := h
  have nd := (sc_Heights_init__).nd
  obtain ⟨⟨dxr, wd, cd, obr, _, _, ⟨cs, c1, c2, c3⟩⟩, ⟨kb0, fb0, hb0, hb0'⟩, _, hle⟩ := id Rb
  have cH := T.cHeights.cl
  refine bw_cons (sw_fld (EVgo (ev_name 1) fun H1 e1 => EVgo (ev_name 0) fun H2 e2 => ⟨hh, CH, dx, [], rfl, e2 _ _ (e1 _ _ ho), cH, T.nHeights.rooms, by decide, ?_⟩))
  have k3 : Km [] Hb (upd H2 hh (.ins CH dx (putF "rooms" (.ref r) []))) := (Km.of (xb.trans (e1.trans e2))).updF fhh
  have o3 : (upd H2 hh (.ins CH dx (putF "rooms" (.ref r) []))) hh = some (.ins CH dx [("rooms", .ref r)]) := upd_same
  generalize upd H2 hh (.ins CH dx (putF "rooms" (.ref r) [])) = H3 at k3 o3
  have x3 := k3.nil
  have hlen : ∀ {l : List Nat}, l.Pairwise (· < ·) → (∀ x ∈ l, x < n) → l.length ≤ 7 := fun {l} h h2 => Nat.le_trans (nodup_lt n l (pw_nd h) h2) hle.2
  have hf7 := hlen en.fnd en.flt
  have ht7 := hlen en.tnd en.tlt
  -- self.ends = tuple(froms) + tuple(tos)
  refine bw_cons (sw_fld (ew_catT (ew_Ty call_tuple_of T.b.b_tuple (aw_cons (EVgo (ev_name 2) fun H4 e4 => aw_nil ⟨pf, _, rfl, .inr ⟨((hfs.mono x3).mono e4).sq, ew_Ty call_tuple_of T.b.b_tuple (aw_cons (EVgo (ev_name 3) fun H5 e5 => aw_nil ⟨pt, _, rfl, .inr ⟨((hts.mono x3).mono (e4.trans e5)).sq, pf, pt, _, _, rfl, rfl, ((hfs.mono x3).mono (e4.trans e5)).sq, ((hts.mono x3).mono (e4.trans e5)).sq, ?_, ?_, fun z => ?_, fun _ ea nea => ?_⟩⟩))⟩⟩)))))
  · exact fun z => en.fne (List.map_eq_nil_iff.mp z)
  · rw [List.length_map, List.length_map]
    exact Evl.sz_of (by omega)
  · exact absurd (List.map_eq_nil_iff.mp z) en.tne
  rw [← List.map_append]
  have fea : H3 ea = none := Evl.fresh_back (e4.trans e5) nea
  have fea' : Hb ea = none := Evl.fresh_back x3 fea
  refine EVgo (ev_name 0) fun H6 e6 => ⟨hh, CH, dx, _, rfl, e6 _ _ (Ex.new nea _ _ (e5 _ _ (e4 _ _ o3))), cH, T.nHeights.ends, by simp, ?_⟩
  have x36 : Ex H3 H6 := (e4.trans e5).trans ((Ex.new nea).trans e6)
  have nea2 : ea ≠ hh := fun z => by
    rw [z, o3] at fea
    cases fea
  have k7 : Km [] Hb (upd H6 hh (.ins CH dx (putF "ends" (.ref ea) [("rooms", .ref r)]))) := (k3.trans (Km.of x36)).updF fhh
  have o7 : (upd H6 hh (.ins CH dx (putF "ends" (.ref ea) [("rooms", .ref r)]))) hh = some (.ins CH dx [("rooms", .ref r), ("ends", .ref ea)]) := upd_same
  have a7 : (upd H6 hh (.ins CH dx (putF "ends" (.ref ea) [("rooms", .ref r)]))) ea = some (.tup ((fs ++ ts).map iV)) := by
    rw [upd_ne nea2]
    exact e6 _ _ upd_same
  generalize upd H6 hh (.ins CH dx (putF "ends" (.ref ea) [("rooms", .ref r)])) = H7 at k7 o7 a7
  -- self.heights = [0] * rooms.size
  refine bw_cons (sw_fld (ew_rep (n := n) ev_int (by omega) (fun H1 e1 => ev_fld (ev_name 1) (rm_fl T (e1 _ _ (k7.nil _ _ obr))).1) fun ha H8 e8 nha hha => EVgo (ev_name 0) fun H9 e9 => ⟨hh, CH, dx, _, rfl, e9 _ _ (e8 _ _ o7), cH, T.nHeights.heights, by simp, ?_⟩))
  have fha : Hb ha = none := Evl.fresh_back k7.nil nha
  have nha2 : ha ≠ hh := fun z => by
    rw [z, o7] at nha
    cases nha
  have k10 : Km [] Hb (upd H9 hh (.ins CH dx (putF "heights" (.ref ha) [("rooms", .ref r), ("ends", .ref ea)]))) := (k7.trans (Km.of (e8.trans e9))).updF fhh
  have o10 : (upd H9 hh (.ins CH dx (putF "heights" (.ref ha) [("rooms", .ref r), ("ends", .ref ea)]))) hh = some (.ins CH dx [("rooms", .ref r), ("ends", .ref ea), ("heights", .ref ha)]) := upd_same
  have a10 : (upd H9 hh (.ins CH dx (putF "heights" (.ref ha) [("rooms", .ref r), ("ends", .ref ea)]))) ea = some (.tup ((fs ++ ts).map iV)) := by
    rw [upd_ne nea2]
    exact e9 _ _ (e8 _ _ a7)
  have h10 : (upd H9 hh (.ins CH dx (putF "heights" (.ref ha) [("rooms", .ref r), ("ends", .ref ea)]))) ha = some (.lst (hL n fun _ => 0)) := by
    rw [upd_ne nha2]
    exact e9 _ _ hha
  generalize upd H9 hh (.ins CH dx (putF "heights" (.ref ha) [("rooms", .ref r), ("ends", .ref ea)])) = H10 at k10 o10 a10 h10
  -- self.too_much = [0] * rooms.size
  refine bw_cons (sw_fld (ew_rep (n := n) ev_int (by omega) (fun H1 e1 => ev_fld (ev_name 1) (rm_fl T (e1 _ _ (k10.nil _ _ obr))).1) fun ta H11 e11 nta hta => EVgo (ev_name 0) fun H12 e12 => ⟨hh, CH, dx, _, rfl, e12 _ _ (e11 _ _ o10), cH, T.nHeights.too_much, by simp, ?_⟩))
  have fta : Hb ta = none := Evl.fresh_back k10.nil nta
  have nta2 : ta ≠ hh := fun z => by
    rw [z, o10] at nta
    cases nta
  have nat : ha ≠ ta := fun z => by
    rw [← z, h10] at nta
    cases nta
  have g13 : HgAt CR CH Hb (upd H12 hh (.ins CH dx (putF "too_much" (.ref ta) [("rooms", .ref r), ("ends", .ref ea), ("heights", .ref ha)]))) hh r bd ea ha ta n W zeM cl (fun _ => 0) (fun _ => 0) (fs ++ ts) := by
    have k13 : Km [] Hb (upd H12 hh (.ins CH dx (putF "too_much" (.ref ta) [("rooms", .ref r), ("ends", .ref ea), ("heights", .ref ha)]))) := (k10.trans (Km.of (e11.trans e12))).updF fhh
    refine ⟨⟨zeM, Rb⟩, Km.of k13.nil, ⟨kb0, fb0, k13.nil _ _ hb0, hb0'⟩, zeM_anti, ⟨dx, upd_same⟩, ?_, ?_, ?_, fhh, fha, fta, nat⟩
    · rw [upd_ne nha2]
      exact e12 _ _ (e11 _ _ h10)
    · rw [upd_ne nta2]
      exact e12 _ _ hta
    · rw [upd_ne nea2]
      exact e12 _ _ (e11 _ _ a10)
  generalize upd H12 hh (.ins CH dx (putF "too_much" (.ref ta) [("rooms", .ref r), ("ends", .ref ea), ("heights", .ref ha)])) = H13 at g13
  have keep : ∀ {Hx : Hp} {p : Addr} {o : HO}, Km [bd] Hb Hx → Hb p = some o → (∀ kvs, o ≠ .dT kvs) → Hx p = some o := fun {Hx p o} k h ho => k _ _ h fun z => by
    rw [List.mem_singleton.mp z, hb0] at h
    exact ho _ (Option.some.inj h).symm
  have kpT : ∀ {Hx : Hp} {p : Addr} {l : List Nat}, Km [bd] Hb Hx → Tp K Hb p (l.map iV) → Tp K Hx p (l.map iV) := fun k h => h.kt (k.kt fun m hm ys z => by
    rw [List.mem_singleton.mp hm, hb0] at z
    cases z)
  -- the froms stand high
  refine bw_cons (sw_forT PassesOwn.never (p := pf) (xs := fs.map iV) (ev_name 2) (kpT g13.km hfs).sq (fun i σ' H' => ∃ (z : Option V) (h : Nat → Nat), σ' = [some (.ref hh), some (.ref r), some (.ref pf), some (.ref pt), z, none] ∧ HgAt CR CH Hb H' hh r bd ea ha ta n W zeM cl h (fun _ => 0) (fs ++ ts) ∧ ∀ v, h v = if v ∈ fs.take i then n else 0) ?_ ?_ ?_ ?_)
  · intro H14 e14
    exact ⟨_, _, rfl, g13.mono e14, fun v => by simp⟩
  · rintro i σ' H' _ ⟨_, _, _, g, _⟩
    exact (kpT g.km hfs).sq
  · rintro i x σ' H' hi ⟨z, h, rfl, g, hh2⟩
    rw [List.getElem?_map] at hi
    obtain ⟨u, hu, rfl⟩ : ∃ v, fs[i]? = some v ∧ iV v = x := by
      cases e : fs[i]? with
      | none => rw [e] at hi; cases hi
      | some v =>
        rw [e] at hi
        exact ⟨v, rfl, Option.some.inj hi⟩
    have hun := en.flt u (List.mem_of_getElem? hu)
    have gsz : ∀ {Hx : Hp}, Ex H' Hx → Fl K Hx r "size" (.int (n : Int)) := fun x => ((rm_fl T (keep g.km obr (fun _ z => by cases z))).1).mono x
    refine gw_name 4 (bw_one (sw_setL (EVgo (ev_fld (ev_name 1) (gsz (Ex.refl _))) fun H15 e15 => ?_)))
    have g15 := g.mono e15
    obtain ⟨dx15, ho15⟩ := g15.ob
    refine EVgo (ev_fld (ev_name 0) (hg_fl T ho15).2.2.1) fun H16 e16 => EVgo (ev_name 4) fun H17 e17 => ⟨ha, _, _, u, rfl, rfl, (g15.mono (e16.trans e17)).hs, Evl.ixN_nat (by show u < (eL n _).length; rw [eL_len]; exact hun), _, _, rfl, (g15.mono (e16.trans e17)).setH hun n, fun v => ?_⟩
    rw [take_snoc hu]
    by_cases c : v = u
    · rw [if_pos c, if_pos (by rw [c]; simp)]
    · rw [if_neg c, hh2 v]
      by_cases c2 : v ∈ fs.take i
      · rw [if_pos c2, if_pos (List.mem_append_left _ c2)]
      · rw [if_neg c2, if_neg fun z => (List.mem_append.mp z).elim c2 fun z => c (List.mem_singleton.mp z)]
  · rintro σ' H' ⟨z, h, rfl, g, hh2⟩
    rw [List.length_map, List.take_length] at hh2
    -- all that they can give goes out
    refine bw_one (sw_forT PassesOwn.never (p := pf) (xs := fs.map iV) (ev_name 2) (kpT g.km hfs).sq (fun i σ' H' => ∃ (z z' : Option V) (F : Mx) (e : Nat → Int), σ' = [some (.ref hh), some (.ref r), some (.ref pf), some (.ref pt), z, z'] ∧ HgAt CR CH Hb H' hh r bd ea ha ta n W F cl h e (fs ++ ts) ∧ CovR n W F cl ∧ Sat n W fs F ∧ (∀ v, v < n → e v = - ot n F v) ∧ ∀ a ∈ fs.take i, ∀ b ∈ cl a, b ∉ fs → F a b = W a b) ?_ ?_ ?_ ?_)
    · intro H14 e14
      exact ⟨_, _, zeM, _, rfl, g.mono e14, cov, ⟨zeM_anti, fun _ _ _ => rfl, fun _ _ _ _ => .inl rfl⟩, fun v _ => by rw [show ot n zeM v = 0 from sm_zero n]; rfl, fun a ha => by simp at ha⟩
    · rintro i σ' H' _ ⟨_, _, _, _, _, g, _⟩
      exact (kpT g.km hfs).sq
    · rintro i x σ' H' hi ⟨z, z', F, e, rfl, g, cov2, sat, hex, hdone⟩
      rw [List.getElem?_map] at hi
      obtain ⟨u, hu, rfl⟩ : ∃ v, fs[i]? = some v ∧ iV v = x := by
        cases e : fs[i]? with
        | none => rw [e] at hi; cases hi
        | some v =>
          rw [e] at hi
          exact ⟨v, rfl, Option.some.inj hi⟩
      have huf := List.mem_of_getElem? hu
      have hun := en.flt u huf
      have huc : u < cs.length := by omega
      have cu := c3 u _ (List.getElem?_eq_getElem huc)
      refine gw_name 4 (bw_one (sw_forL PassesOwn.never (p := cs[u]) (xs := (cl u).map iV) (ev_ixLn u (ev_fld (ev_name 1) (rm_fl T (keep g.km obr (fun _ z => by cases z))).2.2.2) (ev_name 4) (.inl (.inl (keep g.km c1 (fun _ z => by cases z)))) (by rw [List.getElem?_map, List.getElem?_eq_getElem huc]; rfl) rfl) (.inl (.inl (keep g.km cu (fun _ z => by cases z)))) (fun j σ' H' => ∃ (z' : Option V) (F : Mx) (e : Nat → Int), σ' = [some (.ref hh), some (.ref r), some (.ref pf), some (.ref pt), some (iV u), z'] ∧ HgAt CR CH Hb H' hh r bd ea ha ta n W F cl h e (fs ++ ts) ∧ CovR n W F cl ∧ Sat n W fs F ∧ (∀ v, v < n → e v = - ot n F v) ∧ (∀ a ∈ fs.take i, ∀ b ∈ cl a, b ∉ fs → F a b = W a b) ∧ ∀ b ∈ (cl u).take j, b ∉ fs → F u b = W u b) ?_ ?_ ?_ ?_))
      · intro H14 e14
        exact ⟨_, F, e, rfl, g.mono e14, cov2, sat, hex, hdone, fun b hb => by simp at hb⟩
      · rintro j σ' H'' _ ⟨_, _, _, _, g, _⟩
        exact .inl (.inl (keep g.km cu (fun _ z => by cases z)))
      · rintro j x σ' H'' hi ⟨z', F, e, rfl, g, cov2, sat, hex, hdone, hd2⟩
        rw [List.getElem?_map] at hi
        obtain ⟨v, hv, rfl⟩ : ∃ v, (cl u)[j]? = some v ∧ iV v = x := by
          cases e : (cl u)[j]? with
          | none => rw [e] at hi; cases hi
          | some v =>
            rw [e] at hi
            exact ⟨v, rfl, Option.some.inj hi⟩
        obtain ⟨hvn, hvu, _⟩ := ok.in_ u v hun (List.mem_of_getElem? hv)
        refine gw_name 5 (bw_one (sw_ifV (tv_niS (x := iV v) (ev_name 5) (ev_name 2) (.inr (kpT g.km hfs).sq) rfl (flat_iV _)) ?_ ?_))
        · rw [in_iV]
          intro hb H15 e15
          have hvf : v ∉ fs := by simpa using hb
          have g15 := g.mono e15
          obtain ⟨dx15, ho15⟩ := g15.ob
          have obx := keep g15.km obr (fun _ z => by cases z)
          refine bw_one (sw_expr (ew_meth hpu cH hr (EVgo (ev_name 0) fun H16 e16 => ⟨hh, dx15, _, rfl, e16 _ _ ho15, rfl, AVgo (av_cons (ev_name 4) (av_cons (ev_name 5) (av_cons (ev_meth hsp T.cRooms.cl hr (ev_name 1) (e16 _ _ obx) rfl (av_cons (ev_name 4) (av_cons (ev_name 5) av_nil)) (fun H17 e17 => ⟨r, u, v, rfl, bd, n, W, F, cl, g15.rm.mono (e16.trans e17), hun, hvn, rfl⟩)) av_nil))) fun H18 e18 => ⟨hh, u, v, _, rfl, Hb, r, bd, ea, ha, ta, n, W, F, cl, h, e, fs ++ ts, g15.mono (e16.trans e18), hun, hvn, Ne.symm hvu, fun H19 g19 => ?_⟩⟩)))
          obtain ⟨s1, s2, s3⟩ := sat.push huf hvf
          refine ⟨_, _, _, rfl, g19, cov2.pt ok hun (List.mem_of_getElem? hv) _, s1, fun a ha => ?_, fun a ha b hb hbf => s3 a b (List.mem_of_mem_take ha) hbf (hdone a ha b hb hbf), fun b hb hbf => ?_⟩
          · rw [pt_ot hun hvn]
            have := hex a ha
            unfold exP
            omega
          · rw [take_snoc hv] at hb
            rcases List.mem_append.mp hb with z | z
            · exact s3 u b huf hbf (hd2 b z hbf)
            · rw [List.mem_singleton.mp z]
              exact s2
        · rw [in_iV]
          intro hb H15 e15
          have hvf : v ∈ fs := by simpa using hb
          refine bw_nil ⟨_, F, e, rfl, g.mono e15, cov2, sat, hex, hdone, fun b hb hbf => ?_⟩
          rw [take_snoc hv] at hb
          rcases List.mem_append.mp hb with z | z
          · exact hd2 b z hbf
          · rw [List.mem_singleton.mp z] at hbf
            exact absurd hvf hbf
      · rintro σ' H'' ⟨z', F, e, rfl, g, cov2, sat, hex, hdone, hd2⟩
        rw [List.length_map, List.take_length] at hd2
        refine ⟨_, _, F, e, rfl, g, cov2, sat, hex, fun a ha b hb hbf => ?_⟩
        rw [take_snoc hu] at ha
        rcases List.mem_append.mp ha with z | z
        · exact hdone a z b hb hbf
        · rw [List.mem_singleton.mp z] at hb ⊢
          exact hd2 b hb hbf
    · rintro σ' H' ⟨z, z', F, e, rfl, g, cov2, sat, hex, hdone⟩
      rw [List.length_map, List.take_length] at hdone
      have full : ∀ a b, a < n → b < n → a ∈ fs → b ∉ fs → F a b = W a b := fun a b ha hb haf hbf => by
        rcases sat.out a b haf hbf with c | c
        · by_cases c2 : W a b = 0
          · rw [c, c2]
          · exact hdone a haf b (cov2 a b ha hb (.inl c2)) hbf
        · exact c
      have neg : ∀ a b, a < n → b < n → a ∉ fs → F a b ≤ 0 := fun a b ha hb haf => by
        by_cases c : b ∈ fs
        · have h1 := full b a hb ha c haf
          have h2 := sat.anti a b
          have h3 := wok.nn b a
          omega
        · have := sat.same a b ⟨fun z => absurd z haf, fun z => absurd z c⟩
          omega
      refine q H' ea ha ta F h e g cov2 ⟨sat.anti, fun a b ha hb => ?_, hex, fun a ha haf => ?_, fun a b ha hb hab => ?_, fun a ha => ?_, fun a ha => ?_⟩ fun v hv => ?_
      · have h3 := wok.nn a b
        by_cases c1 : a ∈ fs
        · by_cases c2 : b ∈ fs
          · rw [sat.same a b ⟨fun _ => c2, fun _ => c1⟩]
            exact h3
          · rw [full a b ha hb c1 c2]
            exact Int.le_refl _
        · exact Int.le_trans (neg a b ha hb c1) h3
      · rw [hex a ha]
        have : ot n F a ≤ sm n fun _ => 0 := sm_le fun b hb => neg a b ha hb haf
        rw [sm_zero] at this
        omega
      · rw [hh2 a, hh2 b]
        by_cases c1 : a ∈ fs
        · by_cases c2 : b ∈ fs
          · rw [if_pos c1, if_pos c2]
            omega
          · have := full a b ha hb c1 c2
            omega
        · rw [if_neg c1]
          exact Nat.zero_le _
      · rw [hh2 a, if_pos ha]
      · rw [hh2 a, if_neg fun z => en.dis a z ha]
      · rw [hh2 v]
        by_cases c : v ∈ fs
        · rw [if_pos c]
          omega
        · rw [if_neg c]
          exact Nat.zero_le _
def spGst1 (K : PySem.W.Frag) (CW : Addr) : Sp := fun vs H Q _ => ∃ wb pf pt, vs = [.ref wb, .ref pf, .ref pt] ∧ ∃ n W fs ts, WFT K CW H wb pf pt n W fs ts ∧
  ∀ (v : V) (rows : List Rw) (G : Mx) (H' : Hp), Ex H H' → FlAt K H' v rows → FlRows n G rows → Gst n W (inP fs) (inP ts) G → Q v H'
/-! pushed_flow: slots 0 web, 1 froms, 2 tos, 3 rooms, 4 heights, 5 place -/
theorem sc_pushed_flow : FnScope ["web", "froms", "tos", "rooms", "heights", "place"] ["web", "froms", "tos"] (defScope s_pushed_flow) := ⟨rfl, rfl, rfl, by decide +kernel, rfl, by decide +kernel, by decide +kernel⟩
theorem ok_pushed_flow (T : Tops K mg CR CW CN CH) (hae : Has P w K mg base 3 "are_ends" ["web", "froms", "tos"] (spEnds K CW)) (hro : Has P w K mg base 4 "rooms_of" ["web", "flow"] (spRoomsOf K CR CW)) (hhi : HasC P w K mg base CH 3 "Heights" ["self", "rooms", "froms", "tos"] (spHgInit K CR CH)) (hwa : HasM P w K mg base CH 1 "waiting" ["self"] (spWaiting CR CH)) (hcl : HasM P w K mg base CH 3 "clear" ["self", "place"] (spClear CR CH)) (hfl : HasM P w K mg base CR 3 "flow" ["self"] (spFlow K CR)) : Has P w K mg base 5 "pushed_flow" ["web", "froms", "tos"] (spGst1 K CW) := by
  refine has_of (k := 4) T.pushed_flow sc_pushed_flow (fun _ _ _ _ _ _ us hl => match us, hl with | [_, _, _], _ => rfl) (fun vs H Q E h => by
    obtain ⟨wb, pf, pt, rfl, _⟩ := h
    rfl) ?_
  intro f cdv A outer s H0 H vs Q E E0 hr h
  obtain ⟨wb, pf, pt, rfl, n, W, fs, ts, h0, q⟩ := h
  have nd := (sc_pushed_flow).nd
  refine bw_cons (sw_ifF (tv_is (tv_not (tv_val (ev_call hae hr (av_cons (ev_name 0) (av_cons (ev_name 1) (av_cons (ev_name 2) av_nil))) (fun H1 e1 => ⟨_, _, _, rfl, n, W, fs, ts, h0.web.mono e1, h0.f.mono e1, h0.t.mono e1, h0.ends, rfl⟩)))) rfl) fun H1 e1 => bw_nil ?_)
  refine bw_cons (sw_set 3 (ew_call hro hr (aw_cons (EVgo (ev_name 0) fun H2 e2 => aw_cons (EUgo (evu_tup av_nil) fun tp H3 ntp e3 htp => aw_nil ⟨wb, .ref tp, rfl, n, W, [], zeM, h0.web.mono ((e1.trans e2).trans e3), ⟨tp, [], rfl, htp, AllR.nil⟩, ze_rows n, zeM_anti, fun r bd H4 e4 N4 fbd fr => ?_⟩)))))
  have e04 := ((e1.trans e2).trans e3).trans e4
  obtain ⟨cl, R4, ok4, cov4⟩ := N4.at
  have fbd' : H bd = none := Evl.fresh_back ((e1.trans e2).trans e3) fbd
  have wok := h0.web.ok
  have hle := h0.web.le
  refine bw_cons (sw_set 4 (ew_make hhi hr (AVgo (av_cons (ev_name 3) (av_cons (ev_name 1) (av_cons (ev_name 2) av_nil))) fun H5 e5 y dx hy hdx hne => ?_)))
  have e5' : Ex H5 (upd (upd H5 dx (.own y)) y (.ins CH dx [])) := (Ex.new hdx).trans (Ex.new (by rw [upd_ne (Ne.symm hne)]; exact hy))
  refine ⟨y, r, pf, pt, rfl, H5, dx, bd, n, W, cl, fs, ts, R4.mono e5, e5', hy, upd_same, h0.f.mono (e04.trans e5), h0.t.mono (e04.trans e5), h0.ends, wok, ok4, cov4, fun H6 ea ha ta F h e g cov pre hb => ⟨rfl, ?_⟩⟩
  have toEx : ∀ {Hx : Hp}, Km [bd] H5 Hx → Ex H Hx := fun k => Km.nil ((Km.of (M := []) (e04.trans e5)).drop k (by simp [fbd']))
  obtain ⟨dx6, ho6⟩ := g.ob
  refine bw_cons (sw_set 5 (ew_meth0 hwa T.cHeights.cl hr (EVgo (ev_name 4) fun H7 e7 => ⟨y, dx6, _, rfl, e7 _ _ ho6, rfl, y, rfl, H5, r, bd, ea, ha, ta, n, W, F, cl, h, e, fs ++ ts, g.mono e7, ?_⟩)))
  let Wt : Nat → L2.St → Hp → Prop := fun m σ' H' => ∃ (pv : V) (F : Mx) (h : Nat → Nat) (e : Nat → Int), σ' = [some (.ref wb), some (.ref pf), some (.ref pt), some (.ref r), some (.ref y), some pv] ∧ HgAt CR CH H5 H' y r bd ea ha ta n W F cl h e (fs ++ ts) ∧ CovR n W F cl ∧ Pre n W fs ts F h e ∧ (∀ v, v < n → h v ≤ 2 * n) ∧ ((∃ u, pv = .int ((u : Nat) : Int) ∧ u < n ∧ 0 < e u ∧ u ∉ fs ++ ts) ∨ (pv = .non ∧ ∀ u, u < n → ¬ (0 < e u ∧ u ∉ fs ++ ts))) ∧ m = sH n h * (n + 1) ^ (2 * n + 1) + sA n h e (fs ++ ts)
  have loop : ∀ m σ' H', Wt m σ' H' → BW (CxD P w K mg base ["web", "froms", "tos", "rooms", "heights", "place"] "pushed_flow" s_pushed_flow f cdv A outer s H0 E0) ((defBody s_pushed_flow).drop 4) { nx := fun _ H' => Q .non H', rt := Q } σ' H' := by
    intro m0 σ0 H0' hw0
    refine bw_cons (sw_whileM PassesOwn.never Wt m0 hw0 ?_)
    rintro m σ' H' ⟨pv, F, h, e, rfl, g, cov, pre, hb, hcase, rfl⟩
    refine TVgo (tv_notN (ev_name 5)) fun H8 e8 => ?_
    refine ite2 (fun hd => ?_) (fun hd => ?_)
    · rcases hcase with ⟨u, rfl, hu, hpos, hue⟩ | ⟨rfl, _⟩
      · have g8 := g.mono e8
        obtain ⟨dx8, ho8⟩ := g8.ob
        refine bw_cons (sw_expr (ew_meth hcl T.cHeights.cl hr (EVgo (ev_name 4) fun H9 e9 => ⟨y, dx8, _, rfl, e9 _ _ ho8, rfl, AVgo (av_cons (ev_name 5) av_nil) fun H10 e10 => ⟨y, u, rfl, H5, r, bd, ea, ha, ta, n, W, F, cl, h, e, fs, ts, g8.mono (e9.trans e10), ok4, cov, wok, h0.ends, pre, hb, hu, hue, fun F' h' e' H11 g11 cov11 pre11 hb11 hz11 clr => ?_⟩⟩)))
        obtain ⟨dx11, ho11⟩ := g11.ob
        have hlt : sH n h' * (n + 1) ^ (2 * n + 1) + sA n h' e' (fs ++ ts) < sH n h * (n + 1) ^ (2 * n + 1) + sA n h e (fs ++ ts) := by
          rcases clr with ⟨k1, k2⟩ | ⟨k1, w', k2, k3⟩
          · rw [k1]
            have := sA_lt (h := h) hu hpos hue hz11 k2
            omega
          · have h1 := sH_lt k1 hb11 k2 k3
            have h2 := sA_le (e := e') (es := fs ++ ts) hb11
            have h3 : (sH n h' + 1) * (n + 1) ^ (2 * n + 1) ≤ sH n h * (n + 1) ^ (2 * n + 1) := Nat.mul_le_mul_right _ h1
            rw [Nat.succ_mul] at h3
            omega
        refine bw_one (sw_set 5 (ew_meth0 hwa T.cHeights.cl hr (EVgo (ev_name 4) fun H12 e12 => ⟨y, dx11, _, rfl, e12 _ _ ho11, rfl, y, rfl, H5, r, bd, ea, ha, ta, n, W, F', cl, h', e', fs ++ ts, g11.mono e12, fun u2 H13 e13 h1 h2 h3 => ⟨_, hlt, _, F', h', e', rfl, (g11.mono e12).mono e13, cov11, pre11, hb11, .inl ⟨u2, rfl, h1, h2, h3⟩, rfl⟩, fun H13 e13 hno => ⟨_, hlt, _, F', h', e', rfl, (g11.mono e12).mono e13, cov11, pre11, hb11, .inr ⟨rfl, hno⟩, rfl⟩⟩)))
      · cases hd
    · rcases hcase with ⟨u, rfl, hu, hpos, hue⟩ | ⟨rfl, hno⟩
      · exact absurd rfl hd
      · have g8 := g.mono e8
        have R8 := g8.rm
        obtain ⟨⟨dxr, wd, cd, obr, _⟩, _⟩ := id R8
        have hg := pre.done h0.ends fun v hv h1 h2 hp => hno v hv ⟨hp, fun z => (List.mem_append.mp z).elim h1 h2⟩
        exact bw_one (sw_ret (ew_meth0 hfl T.cRooms.cl hr (EVgo (ev_name 3) fun H9 e9 => ⟨r, dxr, _, rfl, e9 _ _ obr, rfl, r, rfl, bd, n, W, F, cl, R8.mono e9, fun v rows H10 e10 hv hrows => q v rows F H10 ((toEx g8.km).trans (e9.trans e10)) hv hrows hg⟩)))
  exact ⟨fun u H8 e8 h1 h2 h3 => loop _ _ _ ⟨_, F, h, e, rfl, (g.mono e7).mono e8, cov, pre, hb, .inl ⟨u, rfl, h1, h2, h3⟩, rfl⟩, fun H8 e8 hno => loop _ _ _ ⟨_, F, h, e, rfl, (g.mono e7).mono e8, cov, pre, hb, .inr ⟨rfl, hno⟩, rfl⟩⟩
end
end Cut


namespace Cut
open PySem PySem.Spec PyProof.Rows L2 Evl
/-! ### rows: what comes in and goes out -/
def sur (n : Nat) (D : Mx) (v : Nat) : Int := sm n (fun i => D i v) - sm n (fun j => D v j)
def sg (b : Bool) : Int := if b then 1 else -1
def mkp (b : Bool) (x z : Nat) : Nat × Nat := if b then (z, x) else (x, z)
structure DOk (n : Nat) (ky : Nat → Nat → Bool) (D : Mx) : Prop where
  nn : ∀ i j, 0 ≤ D i j
  out : ∀ i j, ky i j = false → D i j = 0
  kin : ∀ i j, ky i j = true → i < n ∧ j < n ∧ i ≠ j ∧ ky j i = false
section
variable {n : Nat} {ky : Nat → Nat → Bool} {D : Mx} {b : Bool}
theorem DOk.key (d : DOk n ky D) {i j : Nat} (h : 0 < D i j) : ky i j = true := by
  cases e : ky i j with
  | true => rfl
  | false =>
    rw [d.out i j e] at h
    omega
theorem sm_pos_ex' {f : Nat → Int} {n : Nat} (h : 0 < sm n f) : ∃ i, i < n ∧ 0 < f i := sm_pos_ex h
theorem has_row (d : DOk n ky D) {u : Nat} (h : 0 < sg b * sur n D u) : ∃ z, z < n ∧ 0 < D (mkp b u z).1 (mkp b u z).2 := by
  have h1 : 0 ≤ sm n fun i => D i u := sm_nonneg fun i _ => d.nn i u
  have h2 : 0 ≤ sm n fun j => D u j := sm_nonneg fun j _ => d.nn u j
  cases b with
  | true =>
    have : 0 < sm n fun i => D i u := by
      have : sg true * sur n D u = sur n D u := Int.one_mul _
      unfold sur at this h
      omega
    exact sm_pos_ex this
  | false =>
    have : 0 < sm n fun j => D u j := by
      have : sg false * sur n D u = - sur n D u := by
        show (-1 : Int) * _ = _
        omega
      unfold sur at this h
      omega
    exact sm_pos_ex this
theorem sm_ge_one {f : Nat → Int} (hf : ∀ i, i < n → 0 ≤ f i) {k : Nat} (hk : k < n) (h : 0 < f k) : 0 < sm n f := by
  have := sm_lt (f := fun _ => 0) (g := f) (n := n) hf k hk h
  rw [sm_zero] at this
  exact this
theorem has_row2 (d : DOk n ky D) {u z0 : Nat} (hz : z0 < n) (h0 : 0 < D (mkp b z0 u).1 (mkp b z0 u).2) (h : 0 ≤ sg b * sur n D u) : ∃ z, z < n ∧ 0 < D (mkp b u z).1 (mkp b u z).2 := by
  cases b with
  | true =>
    have h2 : 0 < sm n fun j => D u j := sm_ge_one (fun j _ => d.nn u j) hz h0
    have : 0 < sm n fun i => D i u := by
      have : sg true * sur n D u = sur n D u := Int.one_mul _
      unfold sur at this h
      omega
    exact sm_pos_ex this
  | false =>
    have h2 : 0 < sm n fun i => D i u := sm_ge_one (fun j _ => d.nn j u) hz h0
    have : 0 < sm n fun j => D u j := by
      have : sg false * sur n D u = - sur n D u := by
        show (-1 : Int) * _ = _
        omega
      unfold sur at this h
      omega
    exact sm_pos_ex this
/-- rows one after another, from x to y -/
inductive Trl (n : Nat) (D : Mx) (b : Bool) : List (Nat × Nat) → Nat → Nat → Prop
  | nil (x : Nat) : Trl n D b [] x x
  | cons {x z y : Nat} {ps : List (Nat × Nat)} (hx : x < n) (hz : z < n) (hd : 0 < D (mkp b x z).1 (mkp b x z).2) (t : Trl n D b ps z y) : Trl n D b (mkp b x z :: ps) x y
def sub1 (D : Mx) (p : Nat × Nat) (c : Int) : Mx := fun i j => if i = p.1 ∧ j = p.2 then D i j - c else D i j
def subL : Mx → List (Nat × Nat) → Int → Mx
  | D, [], _ => D
  | D, p :: ps, c => subL (sub1 D p c) ps c
theorem sur_sub1 {p : Nat × Nat} (h1 : p.1 < n) (h2 : p.2 < n) (c : Int) (v : Nat) : sur n (sub1 D p c) v = sur n D v - (if v = p.2 then c else 0) + (if v = p.1 then c else 0) := by
  unfold sur
  have e1 : (sm n fun i => sub1 D p c i v) = (sm n fun i => D i v) - if v = p.2 then c else 0 := by
    have : (sm n fun i => sub1 D p c i v) = sm n fun i => D i v - (if i = p.1 then (if v = p.2 then c else 0) else 0) := sm_congr fun i _ => by
      unfold sub1
      by_cases c1 : i = p.1
      · by_cases c2 : v = p.2
        · rw [if_pos ⟨c1, c2⟩, if_pos c1, if_pos c2]
        · rw [if_neg (fun z => c2 z.2), if_pos c1, if_neg c2]
          omega
      · rw [if_neg (fun z => c1 z.1), if_neg c1]
        omega
    rw [this, sm_sub, sm_one, if_pos h1]
  have e2 : (sm n fun j => sub1 D p c v j) = (sm n fun j => D v j) - if v = p.1 then c else 0 := by
    have : (sm n fun j => sub1 D p c v j) = sm n fun j => D v j - (if j = p.2 then (if v = p.1 then c else 0) else 0) := sm_congr fun j _ => by
      unfold sub1
      by_cases c1 : j = p.2
      · by_cases c2 : v = p.1
        · rw [if_pos ⟨c2, c1⟩, if_pos c1, if_pos c2]
        · rw [if_neg (fun z => c2 z.1), if_pos c1, if_neg c2]
          omega
      · rw [if_neg (fun z => c1 z.2), if_neg c1]
        omega
    rw [this, sm_sub, sm_one, if_pos h2]
  rw [e1, e2]
  omega
theorem mkp_lt {x z : Nat} (hx : x < n) (hz : z < n) : (mkp b x z).1 < n ∧ (mkp b x z).2 < n := by
  cases b
  · exact ⟨hx, hz⟩
  · exact ⟨hz, hx⟩
theorem sur_trl {D0 : Mx} {ps : List (Nat × Nat)} {x y : Nat} (t : Trl n D0 b ps x y) (c : Int) (v : Nat) : ∀ D : Mx, sur n (subL D ps c) v = sur n D v - sg b * (if v = x then c else 0) + sg b * (if v = y then c else 0) := by
  induction t with
  | nil x =>
    intro D
    show sur n D v = _
    omega
  | @cons x z y ps hx hz hd t ih =>
    intro D
    show sur n (subL (sub1 D (mkp b x z) c) ps c) v = _
    obtain ⟨l1, l2⟩ := mkp_lt (b := b) hx hz
    rw [ih, sur_sub1 l1 l2]
    cases b with
    | true =>
      show sur n D v - (if v = x then c else 0) + (if v = z then c else 0) - 1 * _ + 1 * _ = sur n D v - 1 * _ + 1 * _
      omega
    | false =>
      show sur n D v - (if v = z then c else 0) + (if v = x then c else 0) - (-1) * _ + (-1) * _ = sur n D v - (-1) * _ + (-1) * _
      omega
theorem subL_val : ∀ {ps : List (Nat × Nat)} {D : Mx} {c : Int}, ps.Nodup → ∀ i j, subL D ps c i j = if (i, j) ∈ ps then D i j - c else D i j
  | [], D, c, _, i, j => (if_neg List.not_mem_nil).symm
  | p :: ps, D, c, hn, i, j => by
    rw [List.nodup_cons] at hn
    show subL (sub1 D p c) ps c i j = _
    rw [subL_val hn.2]
    unfold sub1
    by_cases c1 : (i, j) = p
    · have c2 : (i, j) ∉ ps := fun z => hn.1 (c1 ▸ z)
      rw [if_neg c2, if_pos ⟨congrArg Prod.fst c1, congrArg Prod.snd c1⟩, if_pos (by rw [c1]; exact List.mem_cons_self)]
    · have c3 : ¬ (i = p.1 ∧ j = p.2) := fun z => c1 (Prod.ext z.1 z.2)
      rw [if_neg c3]
      by_cases c2 : (i, j) ∈ ps
      · rw [if_pos c2, if_pos (List.mem_cons_of_mem _ c2)]
      · rw [if_neg c2, if_neg fun z => (List.mem_cons.mp z).elim c1 c2]
theorem trl_mem {ps : List (Nat × Nat)} {x y : Nat} (t : Trl n D b ps x y) : ∀ p ∈ ps, 0 < D p.1 p.2 := by
  induction t with
  | nil x => exact fun p hp => by cases hp
  | cons hx hz hd t ih =>
    intro p hp
    rcases List.mem_cons.mp hp with rfl | h
    · exact hd
    · exact ih p h
/-- the sum of all rows -/
def sD (n : Nat) (D : Mx) : Int := sm n fun i => sm n fun j => D i j
theorem sD_nn (d : DOk n ky D) : 0 ≤ sD n D := sm_nonneg fun i _ => sm_nonneg fun j _ => d.nn i j
theorem sD_sub {ps : List (Nat × Nat)} {c : Int} (hn : ps.Nodup) (hl : ∀ p ∈ ps, p.1 < n ∧ p.2 < n) (hp : ps ≠ []) (hc : 0 < c) : sD n (subL D ps c) < sD n D := by
  obtain ⟨p, hp⟩ := List.exists_mem_of_ne_nil _ hp
  obtain ⟨h1, h2⟩ := hl p hp
  have le : ∀ i j, subL D ps c i j ≤ D i j := fun i j => by
    rw [subL_val hn]
    by_cases z : (i, j) ∈ ps
    · rw [if_pos z]
      omega
    · rw [if_neg z]
      exact Int.le_refl _
  refine sm_lt (fun i _ => sm_le fun j _ => le i j) p.1 h1 (sm_lt (fun j _ => le p.1 j) p.2 h2 ?_)
  rw [subL_val hn, if_pos hp]
  omega
theorem dok_sub (d : DOk n ky D) {ps : List (Nat × Nat)} {c : Int} (hn : ps.Nodup) (hc : ∀ p ∈ ps, c ≤ D p.1 p.2) (hp : ∀ p ∈ ps, ky p.1 p.2 = true) : DOk n ky (subL D ps c) := by
  refine ⟨fun i j => ?_, fun i j h => ?_, d.kin⟩
  · rw [subL_val hn]
    by_cases z : (i, j) ∈ ps
    · rw [if_pos z]
      have := hc _ z
      dsimp only at this
      omega
    · rw [if_neg z]
      exact d.nn i j
  · rw [subL_val hn, if_neg fun z => by rw [hp _ z] at h; cases h]
    exact d.out i j h
/-- shrunk towards nought -/
def Shr (a c : Int) : Prop := (0 ≤ c ∧ c ≤ a) ∨ (a ≤ c ∧ c ≤ 0)
theorem Shr.refl (a : Int) : Shr a a := by
  unfold Shr
  omega
theorem Shr.trans {a c d : Int} (h : Shr a c) (k : Shr c d) : Shr a d := by
  unfold Shr at *
  omega
/-- the rows as a flow -/
def netM (D : Mx) : Mx := fun i j => D i j - D j i
theorem netM_anti (D : Mx) : Anti (netM D) := fun i j => by
  unfold netM
  omega
theorem netM_ot (D : Mx) (v : Nat) : ot n (netM D) v = - sur n D v := by
  have h : ot n (netM D) v = sm n fun j => D v j - D j v := rfl
  have e : (sm n fun j => D v j) = sm n (D v) := rfl
  rw [h, sm_sub]
  unfold sur
  omega
/-- by indices -/
theorem trl_of {ps : List (Nat × Nat)} {pl : List Nat} (hl : pl.length = ps.length + 1) (hlt : ∀ x ∈ pl, x < n) (h : ∀ (k x z : Nat), pl[k]? = some x → pl[k + 1]? = some z → ps[k]? = some (mkp b x z) ∧ 0 < D (mkp b x z).1 (mkp b x z).2) {y : Nat} (hy : pl[ps.length]? = some y) :
    ∀ (m k x : Nat), ps.length = k + m → pl[k]? = some x → Trl n D b (ps.drop k) x y := by
  intro m
  induction m with
  | zero =>
    intro k x hk hx
    rw [hk, Nat.add_zero] at hy
    have e : x = y := Option.some.inj (hx.symm.trans hy)
    rw [List.drop_of_length_le (by omega), e]
    exact .nil y
  | succ m ih =>
    intro k x hk hx
    have hz : k + 1 < pl.length := by omega
    obtain ⟨h1, h2⟩ := h k x pl[k + 1] hx (List.getElem?_eq_getElem hz)
    have hkl : k < ps.length := by omega
    rw [List.drop_eq_getElem_cons hkl]
    have e : ps[k] = mkp b x pl[k + 1] := by
      rw [List.getElem?_eq_getElem hkl] at h1
      exact Option.some.inj h1
    rw [e]
    exact .cons (hlt x (List.mem_of_getElem? hx)) (hlt _ (List.getElem_mem hz)) h2 (ih (k + 1) pl[k + 1] (by omega) (List.getElem?_eq_getElem hz))
theorem mkp_inj {x z x' z' : Nat} (h : mkp b x z = mkp b x' z') : x = x' ∧ z = z' := by
  cases b
  · exact ⟨congrArg Prod.fst h, congrArg Prod.snd h⟩
  · exact ⟨congrArg Prod.snd h, congrArg Prod.fst h⟩
/-- rows out of unlike places are unlike -/
theorem pairs_nd {ps : List (Nat × Nat)} {src : List Nat} (hn : src.Nodup) (h : ∀ (k : Nat) (p : Nat × Nat), ps[k]? = some p → ∃ x z : Nat, src[k]? = some x ∧ p = mkp b x z) : ps.Nodup := by
  refine List.pairwise_iff_getElem.mpr fun i j hi hj hij e => ?_
  obtain ⟨x, z, h1, h2⟩ := h i _ (List.getElem?_eq_getElem hi)
  obtain ⟨x', z', h3, h4⟩ := h j _ (List.getElem?_eq_getElem hj)
  rw [h2, h4] at e
  obtain ⟨e1, _⟩ := mkp_inj e
  obtain ⟨l1, g1⟩ := List.getElem?_eq_some_iff.mp h1
  obtain ⟨l2, g2⟩ := List.getElem?_eq_some_iff.mp h3
  exact (List.pairwise_iff_getElem.mp hn i j l1 l2 hij) (by rw [g1, g2, e1])
end
end Cut


namespace Cut
open PySem PySem.Spec PyProof.Rows L2 Evl
def ntFs (r ea rd : Addr) : List (Str × V) := [("rooms", .ref r), ("ends", .ref ea), ("rows", .ref rd)]
/-- rows in a dict: its keys stay, its numbers may change -/
def RdAt (H : Hp) (rd : Addr) (n : Nat) (ky : Nat → Nat → Bool) (D : Mx) : Prop := ∃ kvs g, H rd = some (.dT kvs) ∧ Pd n kvs g ∧ ∀ i j, g i j = if ky i j then some (.int (D i j)) else none
structure NtAt (CR CN : Addr) (H : Hp) (nn r wd bd cd ea rd : Addr) (n : Nat) (W : Mx) (cl : Nat → List Nat) (ky : Nat → Nat → Bool) (D : Mx) (es : List Nat) : Prop where
  ob : ∃ dx, H nn = some (.ins CN dx (ntFs r ea rd))
  rm : RmX CR H r wd bd cd n W zeM cl
  en : H ea = some (.tup (es.map iV))
  rw_ : RdAt H rd n ky D
  n1 : rd ≠ wd
  n2 : rd ≠ bd
section
variable {CR CN : Addr} {H H' : Hp} {nn r wd bd cd ea rd : Addr} {n : Nat} {W : Mx} {cl : Nat → List Nat} {ky : Nat → Nat → Bool} {D D' : Mx} {es : List Nat}
theorem RdAt.mono (h : RdAt H rd n ky D) (e : Ex H H') : RdAt H' rd n ky D := by
  obtain ⟨kvs, g, h1, h2⟩ := h
  exact ⟨kvs, g, e _ _ h1, h2⟩
theorem NtAt.mono (h : NtAt CR CN H nn r wd bd cd ea rd n W cl ky D es) (e : Ex H H') : NtAt CR CN H' nn r wd bd cd ea rd n W cl ky D es := by
  obtain ⟨⟨dx, h1⟩, h2, h3, h4, h5, h6⟩ := h
  exact ⟨⟨dx, e _ _ h1⟩, h2.mono e, e _ _ h3, h4.mono e, h5, h6⟩
theorem RmX.keep {F : Mx} {p : Addr} {kvs : List (List Key × V)} (h : RmX CR H r wd bd cd n W F cl) (hp : H p = some (.dT kvs)) (k : Km [p] H H') (n1 : p ≠ wd) (n2 : p ≠ bd) : RmX CR H' r wd bd cd n W F cl := by
  obtain ⟨⟨dx, h1⟩, h2, ⟨kw, fw, h3, h3'⟩, ⟨cs, h4, h4', h4''⟩, ⟨kb, fb, h5, h5'⟩, h6, h7⟩ := h
  have up : ∀ {q : Addr} {o : HO}, H q = some o → q ≠ p → H' q = some o := fun h z => k _ _ h (by simpa using z)
  have nn : ∀ {q : Addr} {o : HO}, H q = some o → (∀ kvs, o ≠ .dT kvs) → q ≠ p := fun {q o} hq ho z => by
    rw [z, hp] at hq
    exact ho _ (Option.some.inj hq).symm
  exact ⟨⟨dx, up h1 (nn h1 fun _ z => by cases z)⟩, h2, ⟨kw, fw, up h3 (Ne.symm n1), h3'⟩, ⟨cs, up h4 (nn h4 fun _ z => by cases z), h4', fun i c e => up (h4'' i c e) (nn (h4'' i c e) fun _ z => by cases z)⟩, ⟨kb, fb, up h5 (Ne.symm n2), h5'⟩, h6, h7⟩
/-- the numbers are other ones -/
theorem NtAt.rows (h : NtAt CR CN H nn r wd bd cd ea rd n W cl ky D es) (k : Km [rd] H H') (d : RdAt H' rd n ky D') : NtAt CR CN H' nn r wd bd cd ea rd n W cl ky D' es := by
  obtain ⟨⟨dx, h1⟩, h2, h3, ⟨kvs, g, h4, _⟩, h5, h6⟩ := h
  have up : ∀ {q : Addr} {o : HO}, H q = some o → (∀ kvs, o ≠ .dT kvs) → H' q = some o := fun {q o} hq ho => k _ _ hq fun z => by
    rw [List.mem_singleton.mp z, h4] at hq
    exact ho _ (Option.some.inj hq).symm
  exact ⟨⟨dx, up h1 fun _ z => (by cases z)⟩, h2.keep h4 k h5 h6, up h3 (fun _ z => (by cases z)), d, h5, h6⟩
theorem RdAt.val (h : RdAt H rd n ky D) {i j : Nat} (hk : ky i j = true) : ∃ kvs, H rd = some (.dT kvs) ∧ valV kvs (kp i j) = some (.int (D i j)) := by
  obtain ⟨kvs, g, h1, h2, h3⟩ := h
  exact ⟨kvs, h1, by rw [h2.val, h3, hk]; rfl⟩
/-- d[i, j] = x at a key that is there -/
theorem RdAt.put (h : RdAt H rd n ky D) {i j : Nat} (hi : i < n) (hj : j < n) (hn : n ≤ 7) (hk : ky i j = true) {H1 : Hp} (e : Ex H H1) (x : Int) {t : Addr} (ht : H1 t = some (.tup [iV i, iV j])) : ∃ H2, DPut H1 rd (.ref t) (.int x) H2 ∧ RdAt H2 rd n ky (fun a b => if a = i ∧ b = j then x else D a b) ∧ Km [rd] H H2 := by
  obtain ⟨kvs, g, h1, h2, h3⟩ := h
  refine ⟨_, DPut.t (k := kp i j) (e _ _ h1) ht (h2.small (Nat.le_trans hn (by decide))), ⟨_, _, upd_same, h2.put hi hj (.int x), fun a b => ?_⟩, (Km.of e).upd (by simp)⟩
  show (if a = i ∧ b = j then some (V.int x) else g a b) = if ky a b = true then some (V.int (if a = i ∧ b = j then x else D a b)) else none
  by_cases c : a = i ∧ b = j
  · rw [if_pos c, if_pos c, c.1, c.2, hk]
    rfl
  · rw [if_neg c, if_neg c]
    exact h3 a b
end
section
variable {P : Program} {w : World} {K : PySem.W.Frag} {mg : Str → Option Value} {base : Heap} {CR CW CN CH : Addr}
theorem nt_fl (T : Tops K mg CR CW CN CH) {H : Hp} {nn dx r ea rd : Addr} (h : H nn = some (.ins CN dx (ntFs r ea rd))) : Fl K H nn "rooms" (.ref r) ∧ Fl K H nn "ends" (.ref ea) ∧ Fl K H nn "rows" (.ref rd) :=
  ⟨⟨CN, dx, _, h, T.cNets.cl, T.nNets.rooms, rfl⟩, ⟨CN, dx, _, h, T.cNets.cl, T.nNets.ends, rfl⟩, ⟨CN, dx, _, h, T.cNets.cl, T.nNets.rows, rfl⟩⟩
/-- what a place has too much -/
def spSur (CR CN : Addr) : Sp := spV fun vs H v => ∃ (nn : Addr) (u : Nat), vs = [.ref nn, .int (u : Int)] ∧ ∃ r wd bd cd ea rd n W cl ky D es, NtAt CR CN H nn r wd bd cd ea rd n W cl ky D es ∧ DOk n ky D ∧ u < n ∧ v = .int (sur n D u)
def surT (u : Nat) (kv : List Key × V) : Int := vI kv.2 * ((if (kPr kv.1).2 = u then 1 else 0) - if (kPr kv.1).1 = u then 1 else 0)
theorem sur_sum {n : Nat} {kvs : List (List Key × V)} {g : Nat → Nat → Option V} {ky : Nat → Nat → Bool} {D : Mx} (h : Pd n kvs g) (hg : ∀ i j, g i j = if ky i j then some (.int (D i j)) else none) (d : DOk n ky D) {u : Nat} (hu : u < n) : (kvs.map (surT u)).sum = sur n D u := by
  have e1 := sm_pairs (n := n) (fun i j => D i j * ((if j = u then 1 else 0) - if i = u then 1 else 0)) (kvs.map fun kv => kPr kv.1) (keys_nd h).1 (fun p hp => by
    obtain ⟨v, hv⟩ := ((keys_nd h).2 p.1 p.2).mp hp
    exact h.inn hv)
  have e2 : kvs.map (surT u) = (kvs.map fun kv => kPr kv.1).map fun p => D p.1 p.2 * ((if p.2 = u then 1 else 0) - if p.1 = u then 1 else 0) := by
    rw [List.map_map]
    refine List.map_congr_left fun kv hkv => ?_
    obtain ⟨i, j, _, _, ek, ev⟩ := h.mem hkv
    have hv : kv.2 = .int (D i j) := by
      rw [hg] at ev
      by_cases c : ky i j = true
      · rw [if_pos c] at ev
        exact (Option.some.inj ev).symm
      · rw [if_neg c] at ev
        cases ev
    show vI kv.2 * ((if (kPr kv.1).2 = u then 1 else 0) - if (kPr kv.1).1 = u then 1 else 0) = D (kPr kv.1).1 (kPr kv.1).2 * ((if (kPr kv.1).2 = u then 1 else 0) - if (kPr kv.1).1 = u then 1 else 0)
    rw [ek, kPr_kp, hv]
    rfl
  rw [e2, ← e1]
  have e3 : ∀ i j, (if (i, j) ∈ (kvs.map fun kv => kPr kv.1) then D i j * ((if j = u then 1 else 0) - if i = u then 1 else 0) else 0) = (if j = u then D i j else 0) - if i = u then D i j else 0 := fun i j => by
    by_cases c : (i, j) ∈ (kvs.map fun kv => kPr kv.1)
    · rw [if_pos c]
      by_cases c1 : j = u
      · by_cases c2 : i = u
        · rw [if_pos c1, if_pos c2, if_pos c1, if_pos c2]
          omega
        · rw [if_pos c1, if_neg c2, if_pos c1, if_neg c2]
          omega
      · by_cases c2 : i = u
        · rw [if_neg c1, if_pos c2, if_neg c1, if_pos c2]
          omega
        · rw [if_neg c1, if_neg c2, if_neg c1, if_neg c2]
          omega
    · rw [if_neg c]
      have hk : ky i j = false := by
        cases e : ky i j with
        | false => rfl
        | true => exact absurd (((keys_nd h).2 i j).mpr ⟨_, by rw [hg, e]; rfl⟩) c
      rw [d.out i j hk]
      by_cases c1 : j = u <;> by_cases c2 : i = u <;> simp [c1, c2]
  have e4 : (sm n fun i => sm n fun j => if (i, j) ∈ (kvs.map fun kv => kPr kv.1) then D i j * ((if j = u then 1 else 0) - if i = u then 1 else 0) else 0) = (sm n fun i => D i u) - sm n fun i => if i = u then (sm n fun j => D i j) else 0 := by
    rw [← sm_sub]
    refine sm_congr fun i _ => ?_
    rw [sm_congr fun j _ => e3 i j, sm_sub, sm_one' hu]
    congr 1
    exact sm_if (i = u) n _
  rw [e4, sm_one' hu]
  rfl
/-! Nets.surplus: slots 0 self, 1 place, 2 found, 3 i, 4 j -/
theorem sc_Nets_surplus : FnScope ["self", "place", "found", "i", "j"] ["self", "place"] (defScope s_Nets_surplus) := ⟨rfl, rfl, rfl, by decide +kernel, rfl, by decide +kernel, by decide +kernel⟩
theorem ok_Nets_surplus (T : Tops K mg CR CW CN CH) : HasM P w K mg base CN 1 "surplus" ["self", "place"] (spSur CR CN) := by
  refine hasM_of (k := 0) T.Nets_surplus sc_Nets_surplus (fun _ _ _ _ _ _ us hl => match us, hl with | [_, _], _ => rfl) (fun vs H Q E h => by
    obtain ⟨_, ⟨nn, u, rfl, _⟩, _⟩ := h
    rfl) ?_
  intro f cdv A outer s H0 H vs Q E E0 hr h
  obtain ⟨v, ⟨nn, u, rfl, r, wd, bd, cd, ea, rd, n, W, cl, ky, D, es, g, d, hu, rfl⟩, q⟩ := h
  have nd := (sc_Nets_surplus).nd
  have huu := hu_of hr
  obtain ⟨dx, ho⟩ := g.ob
  obtain ⟨kvs, gg, hk, hpd, hgg⟩ := g.rw_
  have nnr : nn ≠ rd := ne_of ho hk (by intro z; cases z)
  have hsum := sur_sum hpd hgg d hu
  refine bw_cons (sw_set 2 (EVgo ev_int fun H1 e1 => ?_))
  refine bw_cons (sw_forK (d := rd) (kvs := kvs) PassesOwn.never (e1 _ _ hk) (fun od => ev_fld (ev_name 0) (v := .ref rd) ⟨CN, dx, _, by rw [upd_ne nnr]; exact e1 _ _ ho, T.cNets.cl, T.nNets.rows, rfl⟩) (fun od k σ' H' => ∃ zi zj, σ' = [some (.ref nn), some (.int (u : Int)), some (.int ((kvs.take k).map (surT u)).sum), zi, zj] ∧ Ex (upd H1 rd (.frz od (.dT kvs))) H') ?_ ?_ ?_ ?_)
  · intro od H2 e2
    exact ⟨_, _, rfl, e2⟩
  · rintro od i σ' H' ⟨_, _, _, e⟩
    exact e _ _ upd_same
  · rintro od i k v q' σ' H' hi hq ⟨zi, zj, rfl, e2⟩
    have hmem := List.mem_of_getElem? hi
    obtain ⟨a, b, ha, hb, ek, ev⟩ := hpd.mem hmem
    replace ek : k = kp a b := ek
    subst ek
    have hv : v = .int (D a b) := by
      replace ev : gg a b = some v := ev
      rw [hgg] at ev
      by_cases c : ky a b = true
      · rw [if_pos c] at ev
        exact (Option.some.inj ev).symm
      · rw [if_neg c] at ev
        cases ev
    have hval : valV kvs (kp a b) = some (.int (D a b)) := by
      rw [← hv]
      exact valV_mem hpd.nd hmem
    have ho2 : H' nn = some (.ins CN dx (ntFs r ea rd)) := e2 _ _ (by rw [upd_ne nnr]; exact e1 _ _ ho)
    have hst : surT u (kp a b, v) = D a b * ((if b = u then 1 else 0) - if a = u then 1 else 0) := by
      unfold surT
      rw [kPr_kp, hv]
      rfl
    have bi : ∀ {x : Nat}, (if decide (kV (Sum.inl (x : Int) : Key) = V.int (u : Int)) = true then (1 : Int) else 0) = if x = u then 1 else 0 := fun {x} => by
      show (if decide (V.int (x : Int) = V.int (u : Int)) = true then (1 : Int) else 0) = if x = u then 1 else 0
      by_cases c : x = u
      · rw [c, decide_eq_true rfl, if_pos rfl, if_pos rfl]
      · rw [decide_eq_false (fun z => c (by have := V.int.inj z; omega)), if_neg (by simp), if_neg c]
    refine gw_tup (n := 2) (SqT.of hq) (gws_cons (gw_name 3 (gws_cons (gw_name 4 (gws_nil ?_)))))
    refine bw_one (sw_augP 2 rfl (EVgo (ev_mul (ev_itemT (k := kp a b) huu (ev_fld (ev_name 0) ⟨CN, dx, _, ho2, T.cNets.cl, T.nNets.rows, rfl⟩) (evu_tup (av_cons (ev_name 3) (av_cons (ev_name 4) av_nil))) (.inr ⟨od, e2 _ _ upd_same⟩) hval) (ev_sub (ev_intB T.b.b_int (ev_eq (ev_name 4) (ev_name 1))) (ev_intB T.b.b_int (ev_eq (ev_name 3) (ev_name 1)))) (.inr ?_)) fun H3 e3 => ⟨rfl, some (iV a), some (iV b), ?_, e2.trans e3⟩))
    · rw [bi, bi]
      by_cases c1 : b = u <;> by_cases c2 : a = u <;> simp [c1, c2]
    · rw [bi, bi, take_snoc hi, List.map_append, List.sum_append, List.map_cons, List.map_nil, List.sum_cons, List.sum_nil, hst]
      show _ = [some (V.ref nn), some (V.int (u : Int)), some (V.int (((kvs.take i).map (surT u)).sum + (D a b * ((if b = u then 1 else 0) - if a = u then 1 else 0) + 0))), some (iV a), some (iV b)]
      rw [Int.add_zero]
      rfl
  · rintro od σ' H' ⟨zi, zj, rfl, e2⟩
    rw [List.take_length, hsum]
    have x : Ex H1 (upd H' rd (.dT kvs)) := Ex.unlock (e1 _ _ hk) e2
    exact bw_one (sw_ret (EVgo (ev_name 2) fun H3 e3 => q H3 ((e1.trans x).trans e3)))
/-- the least row with something on it, into or out of a place -/
def spRowAt (CR CN : Addr) : Sp := fun vs H Q _ => ∃ (nn : Addr) (u : Nat) (b : Bool), vs = [.ref nn, .int (u : Int), .bl b] ∧ ∃ r wd bd cd ea rd n W cl ky D es, NtAt CR CN H nn r wd bd cd ea rd n W cl ky D es ∧ DOk n ky D ∧ (∃ z, z < n ∧ 0 < D (mkp b u z).1 (mkp b u z).2) ∧
  ∀ (t : Addr) (z : Nat) (H' : Hp), Ex H H' → z < n → 0 < D (mkp b u z).1 (mkp b u z).2 → H' t = some (.tup [iV (mkp b u z).1, iV (mkp b u z).2]) → Q (.ref t) H'
/-! Nets.row_at: slots 0 self, 1 place, 2 is_back, 3 pair -/
theorem sc_Nets_row_at : FnScope ["self", "place", "is_back", "pair"] ["self", "place", "is_back"] (defScope s_Nets_row_at) := ⟨rfl, rfl, rfl, by decide +kernel, rfl, by decide +kernel, by decide +kernel⟩
theorem ok_Nets_row_at (T : Tops K mg CR CW CN CH) : HasM P w K mg base CN 1 "row_at" ["self", "place", "is_back"] (spRowAt CR CN) := by
  refine hasM_of (k := 0) T.Nets_row_at sc_Nets_row_at (fun _ _ _ _ _ _ us hl => match us, hl with | [_, _, _], _ => rfl) (fun vs H Q E h => by
    obtain ⟨nn, u, b, rfl, _⟩ := h
    rfl) ?_
  intro f cdv A outer s H0 H vs Q E E0 hr h
  obtain ⟨nn, u, b, rfl, r, wd, bd, cd, ea, rd, n, W, cl, ky, D, es, g, d, hex, q⟩ := h
  have nd := (sc_Nets_row_at).nd
  have huu := hu_of hr
  obtain ⟨dx, ho⟩ := g.ob
  obtain ⟨kvs, gg, hk, hpd, hgg⟩ := g.rw_
  have hle := g.rm.le
  have hkl : kvs.length ≤ 49 := Nat.le_trans hpd.len (Nat.mul_le_mul hle.2 hle.2)
  refine bw_cons (sw_for PassesOwn.never (iw_L (ew_B (cr_sortKT (d := 2) (B := 64) (by decide)) T.b.b_sorted (aw_cons (EVgo (ev_fld (ev_name 0) (nt_fl T ho).2.2) fun H1 e1 => aw_nil ⟨rd, kvs, rfl, .inl (e1 _ _ hk), by omega, keys_ok hpd hle.2, fun bs zs l hbs hperm hpw nl => ⟨l, rfl, ⟨zs, .inl (.inl upd_same)⟩, ?_⟩⟩)))))
  obtain ⟨prs, hp1, hp2, hp3⟩ := sort_prs (keys_prs hpd hbs) (keys_nd hpd).1 (fun a ha => by
    obtain ⟨v, hv⟩ := ((keys_nd hpd).2 a.1 a.2).mp ha
    have := hpd.inn hv
    omega) hperm hpw
  have hpm : ∀ a, a ∈ prs ↔ ky a.1 a.2 = true := fun a => by
    rw [hp1.mem_iff]
    have := (keys_nd hpd).2 a.1 a.2
    refine this.trans ⟨fun ⟨v, hv⟩ => ?_, fun h => ⟨_, by rw [hgg, h]; rfl⟩⟩
    rw [hgg] at hv
    cases e : ky a.1 a.2 with
    | true => rfl
    | false =>
      rw [e] at hv
      cases hv
  have e2 : Ex H (upd H1 l (.lst zs)) := e1.trans (Ex.new nl)
  have hl2 : (upd H1 l (.lst zs)) l = some (.lst zs) := upd_same
  have hz3 : AllR PrR prs zs (upd H1 l (.lst zs)) := hp3.imp fun a y r => r.kt (Kt.of (Ex.new nl))
  generalize upd H1 l (.lst zs) = H2 at e2 hl2 hz3
  refine for_it walk_list (fun i σ' H' => ∃ z : Option V, σ' = [some (.ref nn), some (.int (u : Int)), some (.bl b), z] ∧ Ex H2 H' ∧ ∀ a ∈ prs.take i, ¬ (0 < D a.1 a.2 ∧ (if b then a.2 else a.1) = u)) ⟨_, rfl, Ex.refl _, fun a ha => by simp at ha⟩ (fun i σ' H' _ ⟨_, _, e, _⟩ => .inl (.inl (e _ _ hl2))) ?_ ?_
  · rintro i x σ' H' H'' hi ⟨z, rfl, e3, hno⟩ ⟨rfl, hx⟩
    have hil : i < prs.length := by
      rw [← hp3.1]
      exact hi
    have ha := List.getElem?_eq_getElem hil
    generalize prs[i] = a at ha
    obtain ⟨t, rfl, ht⟩ := (hz3.2 i a x ha hx).kt (Kt.of e3)
    have hka := (hpm a).mp (List.mem_of_getElem? ha)
    have e23 := e2.trans e3
    obtain ⟨ha1, ha2, _, _⟩ := d.kin _ _ hka
    have hval : valV kvs (kp a.1 a.2) = some (.int (D a.1 a.2)) := by
      rw [hpd.val, hgg, hka]
      rfl
    have hix : ∀ {Hx : Hp}, Ex H'' Hx → ([iV a.1, iV a.2] : List V)[if b then 1 else 0]? = some (iV (if b then a.2 else a.1)) := fun _ => by cases b <;> rfl
    refine gw_name 3 (bw_one (sw_ifV (k := decide (0 < D a.1 a.2) && decide (V.int (((if b then a.2 else a.1) : Nat) : Int) = V.int (u : Int))) (tv_bool (wv_and (tv_gt (ev_itemTR (k := kp a.1 a.2) huu (ev_fld (ev_name 0) ((nt_fl T ho).2.2.mono e23)) (ev_name 3) ht (.inl (e23 _ _ hk)) hval) ev_int) fun _ => wv_one_and (tv_eq (ev_ixTn (if b then 1 else 0) (ev_name 3) (ev_intB T.b.b_int (ev_name 2)) (SqT.of ht) (hix (Ex.refl _)) (by cases b <;> rfl)) (ev_name 1)))) ?_ ?_))
    · intro hb H3 e4
      rw [Bool.and_eq_true] at hb
      have h1 : 0 < D a.1 a.2 := of_decide_eq_true hb.1
      have h2 : (if b then a.2 else a.1) = u := by
        have := V.int.inj (of_decide_eq_true hb.2)
        omega
      refine bw_one (sw_ret (EVgo (ev_name 3) fun H4 e5 => ?_))
      cases b with
      | true => exact q t a.1 H4 (e23.trans (e4.trans e5)) ha1 (by show 0 < D a.1 u; rw [← h2]; exact h1) (by show H4 t = some (.tup [iV a.1, iV u]); rw [← h2]; exact e5 _ _ (e4 _ _ ht))
      | false => exact q t a.2 H4 (e23.trans (e4.trans e5)) ha2 (by show 0 < D u a.2; rw [← h2]; exact h1) (by show H4 t = some (.tup [iV u, iV a.2]); rw [← h2]; exact e5 _ _ (e4 _ _ ht))
    · intro hb H3 e4
      refine bw_nil ⟨_, rfl, e3.trans e4, fun a' ha' hc => ?_⟩
      rw [take_snoc ha] at ha'
      rcases List.mem_append.mp ha' with z | z
      · exact hno a' z hc
      · rw [List.mem_singleton.mp z] at hc
        rw [decide_eq_true hc.1, decide_eq_true (by rw [hc.2])] at hb
        cases hb
  · rintro σ' H' ⟨z, rfl, e3, hno⟩
    rw [hp3.1, List.take_length] at hno
    obtain ⟨z0, hz0, hpos⟩ := hex
    refine absurd ⟨hpos, ?_⟩ (hno (mkp b u z0) ((hpm _).mpr (d.key hpos)))
    cases b <;> rfl
end
end Cut


namespace Cut
open PySem PySem.Spec PyProof.Rows L2 Evl
section
variable {CR : Addr} {H H' : Hp} {r wd bd cd p : Addr} {n : Nat} {W F : Mx} {cl : Nat → List Nat}
theorem RmX.keepI {C dx : Addr} {fs : List (Str × V)} (h : RmX CR H r wd bd cd n W F cl) (hp : H p = some (.ins C dx fs)) (hr : r ≠ p) (k : Km [p] H H') : RmX CR H' r wd bd cd n W F cl := by
  obtain ⟨⟨dx, h1⟩, h2, ⟨kw, fw, h3, h3'⟩, ⟨cs, h4, h4', h4''⟩, ⟨kb, fb, h5, h5'⟩, h6, h7⟩ := h
  have up : ∀ {q : Addr} {o : HO}, H q = some o → (∀ C dx fs, o ≠ .ins C dx fs) → H' q = some o := fun {q o} hq ho => k _ _ hq fun z => by
    rw [List.mem_singleton.mp z, hp] at hq
    exact ho _ _ _ (Option.some.inj hq).symm
  exact ⟨⟨dx, k _ _ h1 (by simpa using hr)⟩, h2, ⟨kw, fw, up h3 (fun _ _ _ z => (by cases z)), h3'⟩, ⟨cs, up h4 (fun _ _ _ z => (by cases z)), h4', fun i c e => up (h4'' i c e) (fun _ _ _ z => (by cases z))⟩, ⟨kb, fb, up h5 (fun _ _ _ z => (by cases z)), h5'⟩, h6, h7⟩
end
def kyF (n : Nat) (F : Mx) : Nat → Nat → Bool := fun i j => decide (i < n ∧ j < n ∧ 0 < F i j)
def DF (n : Nat) (F : Mx) : Mx := fun i j => if kyF n F i j then F i j else 0
theorem kyF_iff {n : Nat} {F : Mx} {i j : Nat} : kyF n F i j = true ↔ i < n ∧ j < n ∧ 0 < F i j := decide_eq_true_iff
theorem dok_F {n : Nat} {F : Mx} (hA : Anti F) : DOk n (kyF n F) (DF n F) := by
  refine ⟨fun i j => ?_, fun i j h => ?_, fun i j h => ?_⟩
  · unfold DF
    by_cases c : kyF n F i j = true
    · rw [if_pos c]
      have := (kyF_iff.mp c).2.2
      omega
    · rw [if_neg c]
      exact Int.le_refl _
  · unfold DF
    rw [h]
    rfl
  · obtain ⟨h1, h2, h3⟩ := kyF_iff.mp h
    refine ⟨h1, h2, fun z => ?_, ?_⟩
    · rw [z] at h3
      have := anti_self hA j
      omega
    · cases e : kyF n F j i with
      | false => rfl
      | true =>
        have := (kyF_iff.mp e).2.2
        have := hA i j
        omega
theorem netM_F {n : Nat} {F : Mx} (hA : Anti F) {i j : Nat} (hi : i < n) (hj : j < n) : netM (DF n F) i j = F i j := by
  unfold netM DF
  have h := hA i j
  by_cases c1 : kyF n F i j = true
  · rw [if_pos c1]
    have := (kyF_iff.mp c1).2.2
    rw [if_neg fun c => by have := (kyF_iff.mp c).2.2; omega]
    omega
  · rw [if_neg c1]
    have h1 : ¬ 0 < F i j := fun z => c1 (kyF_iff.mpr ⟨hi, hj, z⟩)
    by_cases c2 : kyF n F j i = true
    · rw [if_pos c2]
      omega
    · rw [if_neg c2]
      have h2 : ¬ 0 < F j i := fun z => c2 (kyF_iff.mpr ⟨hj, hi, z⟩)
      omega
theorem sur_F {n : Nat} {F : Mx} (hA : Anti F) {v : Nat} (hv : v < n) : sur n (DF n F) v = - ot n F v := by
  have h1 := netM_ot (n := n) (DF n F) v
  have h2 : ot n (netM (DF n F)) v = ot n F v := sm_congr fun j hj => netM_F hA hv hj
  omega
section
variable {P : Program} {w : World} {K : PySem.W.Frag} {mg : Str → Option Value} {base : Heap} {CR CW CN CH : Addr}
def spNtInit (K : PySem.W.Frag) (CR CW CN : Addr) : Sp := fun vs H Q _ => ∃ nn wb pf pt y, vs = [.ref nn, .ref wb, .ref pf, .ref pt, y] ∧ ∃ dx n W fs ts rows F, H nn = some (.ins CN dx []) ∧ WFT K CW H wb pf pt n W fs ts ∧ FlAt K H y rows ∧ FlRows n F rows ∧ Anti F ∧
  ∀ H' r wd bd cd ea rd cl, NtAt CR CN H' nn r wd bd cd ea rd n W cl (kyF n F) (DF n F) (fs ++ ts) → ClOk n cl → CovR n W zeM cl → Km [nn] H H' → H bd = none → H rd = none → Q .non H'
/-! Nets.__init__: slots 0 self, 1 web, 2 froms, 3 tos, 4 flow, 5 i, 6 j, 7 amount -/
theorem sc_Nets_init__ : FnScope ["self", "web", "froms", "tos", "flow", "i", "j", "amount"] ["self", "web", "froms", "tos", "flow"] (defScope s_Nets_init__) := ⟨rfl, rfl, rfl, by decide +kernel, rfl, by decide +kernel, by decide +kernel⟩
theorem ok_Nets_init (T : Tops K mg CR CW CN CH) (hi : HasC P w K mg base CR 2 "Rooms" ["self", "web"] (spRmInit K CR CW)) (hp : HasM P w K mg base CR 1 "parts" ["self", "amount"] (spParts K)) : HasC P w K mg base CN 4 "Nets" ["self", "web", "froms", "tos", "flow"] (spNtInit K CR CW CN) := by
  refine hasC_of (k := 3) T.cNets sc_Nets_init__ (fun _ _ _ _ _ _ us hl => match us, hl with | [_, _, _, _, _], _ => rfl) (fun vs H Q E h => by
    obtain ⟨nn, wb, pf, pt, y, rfl, _⟩ := h
    rfl) ?_
  intro f cdv A outer s H0 H vs Q E E0 hr h
  obtain ⟨nn, wb, pf, pt, y, rfl, dx, n, W, fs, ts, rows, F, ho, h0, ⟨fp, ys, rfl, hys, hrows⟩, hF, hA, q⟩ := h
  have nd := (sc_Nets_init__).nd
  have hu := hu_of hr
  have cN := T.cNets.cl
  have hle := h0.web.le
  have en := h0.ends
  refine bw_cons (sw_fld (ew_rooms hi hr (ev_name 1) h0.web fun r bd H1 e1 N1 fbd fr => EVgo (ev_name 0) fun H2 e2 => ⟨nn, CN, dx, [], rfl, e2 _ _ (e1 _ _ ho), cN, T.nNets.rooms, by decide, ?_⟩))
  obtain ⟨wd, cd, cl, R1, ok, cov, _, _⟩ := N1
  have nrn : r ≠ nn := fun z => by
    rw [z, ho] at fr
    cases fr
  have k3 : Km [nn] H (upd H2 nn (.ins CN dx (putF "rooms" (.ref r) []))) := (Km.of (e1.trans e2)).upd (by simp)
  have o3 : (upd H2 nn (.ins CN dx (putF "rooms" (.ref r) []))) nn = some (.ins CN dx [("rooms", .ref r)]) := upd_same
  have R3 : RmX CR (upd H2 nn (.ins CN dx (putF "rooms" (.ref r) []))) r wd bd cd n W zeM cl := (R1.mono e2).keepI (e2 _ _ (e1 _ _ ho)) nrn ((Km.of (Ex.refl _)).upd (by simp))
  generalize upd H2 nn (.ins CN dx (putF "rooms" (.ref r) [])) = H3 at k3 o3 R3
  have ktN : ∀ {Hx : Hp}, Km [nn] H Hx → Kt H Hx := fun k => k.kt fun m hm xs z => by
    rw [List.mem_singleton.mp hm, ho] at z
    cases z
  have hlen : ∀ {l : List Nat}, l.Pairwise (· < ·) → (∀ x ∈ l, x < n) → l.length ≤ 7 := fun {l} h h2 => Nat.le_trans (nodup_lt n l (pw_nd h) h2) hle.2
  have hf7 := hlen en.fnd en.flt
  have ht7 := hlen en.tnd en.tlt
  have pf3 := h0.f.kt (ktN k3)
  have pt3 := h0.t.kt (ktN k3)
  refine bw_cons (sw_fld (ew_catT (ew_Ty call_tuple_of T.b.b_tuple (aw_cons (EVgo (ev_name 2) fun H4 e4 => aw_nil ⟨pf, _, rfl, .inr ⟨(pf3.mono e4).sq, ew_Ty call_tuple_of T.b.b_tuple (aw_cons (EVgo (ev_name 3) fun H5 e5 => aw_nil ⟨pt, _, rfl, .inr ⟨(pt3.mono (e4.trans e5)).sq, pf, pt, _, _, rfl, rfl, (pf3.mono (e4.trans e5)).sq, (pt3.mono (e4.trans e5)).sq, ?_, ?_, fun z => ?_, fun _ ea nea => ?_⟩⟩))⟩⟩)))))
  · exact fun z => en.fne (List.map_eq_nil_iff.mp z)
  · rw [List.length_map, List.length_map]
    exact Evl.sz_of (by omega)
  · exact absurd (List.map_eq_nil_iff.mp z) en.tne
  rw [← List.map_append]
  have fea : H3 ea = none := Evl.fresh_back (e4.trans e5) nea
  refine EVgo (ev_name 0) fun H6 e6 => ⟨nn, CN, dx, _, rfl, e6 _ _ (Ex.new nea _ _ (e5 _ _ (e4 _ _ o3))), cN, T.nNets.ends, by simp, ?_⟩
  have x36 : Ex H3 H6 := (e4.trans e5).trans ((Ex.new nea).trans e6)
  have nea2 : ea ≠ nn := fun z => by
    rw [z, o3] at fea
    cases fea
  have k7 : Km [nn] H (upd H6 nn (.ins CN dx (putF "ends" (.ref ea) [("rooms", .ref r)]))) := (k3.trans (Km.of x36)).upd (by simp)
  have o7 : (upd H6 nn (.ins CN dx (putF "ends" (.ref ea) [("rooms", .ref r)]))) nn = some (.ins CN dx [("rooms", .ref r), ("ends", .ref ea)]) := upd_same
  have a7 : (upd H6 nn (.ins CN dx (putF "ends" (.ref ea) [("rooms", .ref r)]))) ea = some (.tup ((fs ++ ts).map iV)) := by
    rw [upd_ne nea2]
    exact e6 _ _ upd_same
  have R7 : RmX CR (upd H6 nn (.ins CN dx (putF "ends" (.ref ea) [("rooms", .ref r)]))) r wd bd cd n W zeM cl := (R3.mono x36).keepI (x36 _ _ o3) nrn ((Km.of (Ex.refl _)).upd (by simp))
  generalize upd H6 nn (.ins CN dx (putF "ends" (.ref ea) [("rooms", .ref r)])) = H7 at k7 o7 a7 R7
  refine bw_cons (sw_fld (ew_of pe_dnewT fun rd hrd => EVgo (ev_name 0) fun H8 e8 => ⟨nn, CN, dx, _, rfl, e8 _ _ (Ex.new hrd _ _ o7), cN, T.nNets.rows, by simp, ?_⟩))
  have frd : H rd = none := k7.fresh (fun m hm => by rw [List.mem_singleton.mp hm, o7]; exact fun z => by cases z) hrd
  have nrd : rd ≠ nn := fun z => by
    rw [z, o7] at hrd
    cases hrd
  have x8 := (Ex.new hrd (o := .dT [])).trans e8
  have k9 : Km [nn] H (upd H8 nn (.ins CN dx (putF "rows" (.ref rd) [("rooms", .ref r), ("ends", .ref ea)]))) := (k7.trans (Km.of x8)).upd (by simp)
  have R8 := (R7.mono x8).keepI (H' := upd H8 nn (.ins CN dx (putF "rows" (.ref rd) [("rooms", .ref r), ("ends", .ref ea)]))) (x8 _ _ o7) nrn ((Km.of (Ex.refl _)).upd (by simp))
  have n1 : rd ≠ wd := fun z => by
    obtain ⟨_, _, hw, _⟩ := R7.wt
    rw [← z, hrd] at hw
    cases hw
  have n2 : rd ≠ bd := fun z => by
    obtain ⟨_, _, hb, _⟩ := R7.br
    rw [← z, hrd] at hb
    cases hb
  have g9 : NtAt CR CN (upd H8 nn (.ins CN dx (putF "rows" (.ref rd) [("rooms", .ref r), ("ends", .ref ea)]))) nn r wd bd cd ea rd n W cl (fun _ _ => false) (fun _ _ => 0) (fs ++ ts) := by
    refine ⟨⟨dx, upd_same⟩, R8, by rw [upd_ne nea2]; exact x8 _ _ a7, ⟨[], _, by rw [upd_ne nrd]; exact e8 _ _ upd_same, Pd.nil n, fun _ _ => rfl⟩, n1, n2⟩
  generalize upd H8 nn (.ins CN dx (putF "rows" (.ref rd) [("rooms", .ref r), ("ends", .ref ea)])) = H9 at k9 g9
  refine bw_one (sw_forT PassesOwn.never (p := fp) (xs := ys) (ev_name 4) (SqT.of (ktN k9 _ _ hys)) (fun k σ' H' => ∃ (zi zj za : Option V) (ky : Nat → Nat → Bool) (D : Mx), σ' = [some (.ref nn), some (.ref wb), some (.ref pf), some (.ref pt), some (.ref fp), zi, zj, za] ∧ NtAt CR CN H' nn r wd bd cd ea rd n W cl ky D (fs ++ ts) ∧ Km [nn] H H' ∧ (∀ i j, ky i j = true ↔ ∃ m, (i, j, m) ∈ rows.take k) ∧ ∀ t ∈ rows.take k, D t.1 t.2.1 = (t.2.2 : Int)) ?_ ?_ ?_ ?_)
  · intro H10 e10
    exact ⟨_, _, _, _, _, rfl, g9.mono e10, k9.trans (Km.of e10), fun i j => ⟨fun z => (by cases z), fun ⟨m, z⟩ => (by simp at z)⟩, fun t ht => by simp at ht⟩
  · rintro i σ' H' _ ⟨_, _, _, _, _, _, _, k, _⟩
    exact SqT.of (ktN k _ _ hys)
  · rintro k x σ' H' hk ⟨zi, zj, za, ky, D, rfl, g, km, hky, hD⟩
    obtain ⟨t, ht⟩ : ∃ t, rows[k]? = some t := by
      have := (List.getElem?_eq_some_iff.mp hk).1
      rw [hrows.1] at this
      exact ⟨_, List.getElem?_eq_getElem this⟩
    obtain ⟨i, j, m⟩ := t
    obtain ⟨p, pa, rfl, hp1, hp2⟩ := (hrows.2 k _ x ht hk).kt (ktN km)
    obtain ⟨hin, hjn, _, hm0, hFm⟩ := hF.ne hA (List.mem_of_getElem? ht)
    refine gw_tup (n := 3) (SqT.of hp1) (gws_cons (gw_name 5 (gws_cons (gw_name 6 (gws_cons (gw_name 7 (gws_nil ?_)))))))
    obtain ⟨dxn, hon⟩ := g.ob
    obtain ⟨fr', _, fw'⟩ := nt_fl T hon
    obtain ⟨⟨dxr, obr⟩, _⟩ := id g.rm
    refine bw_one (sw_dput hu (EVgo (ev_meth hp T.cRooms.cl hr (ev_fld (ev_name 0) fr') obr rfl (av_cons (ev_name 7) av_nil) (fun H1 e1 => ⟨_, _, rfl, m, Amt.s ⟨pa, rfl, hp2.kt (Kt.of e1)⟩, rfl⟩)) fun Hb eb => EVgo (ev_fld (ev_name 0) (fw'.mono eb)) fun Hc ec => EUgo (evu_tup (av_cons (ev_name 5) (av_cons (ev_name 6) av_nil))) fun tt Hd nt ed ht2 => ?_))
    have e5 := (eb.trans ec).trans ed
    obtain ⟨kvs, gg, hk1, hk2, hk3⟩ := (g.mono e5).rw_
    refine ⟨rd, _, rfl, DPut.t (k := kp i j) hk1 ht2 (hk2.small (Nat.le_trans hle.2 (by decide))), ?_⟩
    have kr : Km [rd] Hd (upd Hd rd (.dT (putK kvs (kp i j) (.int (m : Int))))) := (Km.of (Ex.refl _)).upd (by simp)
    obtain ⟨⟨dx5, ob5⟩, rm5, en5, _, _, _⟩ := g.mono e5
    have up : ∀ {q : Addr} {o : HO}, Hd q = some o → (∀ kvs, o ≠ .dT kvs) → (upd Hd rd (.dT (putK kvs (kp i j) (.int (m : Int))))) q = some o := fun {q o} hq ho => kr _ _ hq fun z => by
      rw [List.mem_singleton.mp z, hk1] at hq
      exact ho _ (Option.some.inj hq).symm
    refine ⟨_, _, _, (fun a b => decide (a = i ∧ b = j) || ky a b), (fun a b => if a = i ∧ b = j then (m : Int) else D a b), rfl, ⟨⟨dx5, up ob5 fun _ z => (by cases z)⟩, rm5.keep hk1 kr n1 n2, up en5 (fun _ z => (by cases z)), ⟨_, _, upd_same, hk2.put hin hjn (.int (m : Int)), fun a b => ?_⟩, n1, n2⟩, (km.trans (Km.of e5)).drop kr (by simp [frd]), fun a b => ?_, fun t' ht' => ?_⟩
    · show (if a = i ∧ b = j then some (V.int (m : Int)) else gg a b) = if (decide (a = i ∧ b = j) || ky a b) = true then some (V.int (if a = i ∧ b = j then (m : Int) else D a b)) else none
      by_cases c : a = i ∧ b = j
      · rw [if_pos c, if_pos c, decide_eq_true c]
        rfl
      · rw [if_neg c, if_neg c, decide_eq_false c, Bool.false_or]
        exact hk3 a b
    · rw [take_snoc ht, Bool.or_eq_true, decide_eq_true_iff, hky]
      constructor
      · rintro (c | ⟨m', h⟩)
        · exact ⟨m, by rw [c.1, c.2]; simp⟩
        · exact ⟨m', List.mem_append_left _ h⟩
      · rintro ⟨m', h⟩
        rcases List.mem_append.mp h with h | h
        · exact .inr ⟨m', h⟩
        · have := List.mem_singleton.mp h
          obtain ⟨h1, h2⟩ := Prod.mk.inj this
          exact .inl ⟨h1, (Prod.mk.inj h2).1⟩
    · rw [take_snoc ht] at ht'
      show (if t'.1 = i ∧ t'.2.1 = j then (m : Int) else D t'.1 t'.2.1) = (t'.2.2 : Int)
      by_cases c : t'.1 = i ∧ t'.2.1 = j
      · rw [if_pos c]
        have h1 : F t'.1 t'.2.1 = (t'.2.2 : Int) := by
          rcases List.mem_append.mp ht' with h | h
          · exact (hF.ne hA (List.mem_of_mem_take h)).2.2.2.2
          · rw [List.mem_singleton.mp h]
            exact hFm
        rw [c.1, c.2] at h1
        replace hFm : F i j = (m : Int) := hFm
        omega
      · rw [if_neg c]
        rcases List.mem_append.mp ht' with h | h
        · exact hD t' h
        · rw [List.mem_singleton.mp h] at c
          exact absurd ⟨rfl, rfl⟩ c
  · rintro σ' H' ⟨zi, zj, za, ky, D, rfl, g, km, hky, hD⟩
    rw [hrows.1, List.take_length] at hky hD
    have hmem : ∀ i j m, (i, j, m) ∈ rows ↔ i < n ∧ j < n ∧ 0 < m ∧ F i j = (m : Int) := hF.iff
    have ek : ky = kyF n F := by
      funext i j
      rw [Bool.eq_iff_iff, hky, kyF_iff]
      constructor
      · rintro ⟨m, h⟩
        obtain ⟨h1, h2, h3, h4⟩ := (hmem i j m).mp h
        exact ⟨h1, h2, by omega⟩
      · rintro ⟨h1, h2, h3⟩
        exact ⟨(F i j).toNat, (hmem i j _).mpr ⟨h1, h2, by omega, by omega⟩⟩
    obtain ⟨g1, g2, g3, ⟨kvs, gg, g4, g5, g6⟩, g7, g8⟩ := g
    refine q H' r wd bd cd ea rd cl ⟨g1, g2, g3, ⟨kvs, gg, g4, g5, fun i j => ?_⟩, g7, g8⟩ ok cov km fbd frd
    rw [g6, ek]
    by_cases c : kyF n F i j = true
    · rw [if_pos c, if_pos c]
      obtain ⟨h1, h2, h3⟩ := kyF_iff.mp c
      have := hD _ ((hmem i j _).mpr ⟨h1, h2, (show 0 < (F i j).toNat by omega), (show F i j = ((F i j).toNat : Int) by omega)⟩)
      replace this : D i j = ((F i j).toNat : Int) := this
      unfold DF
      rw [if_pos c, this]
      congr 2
      omega
    · rw [if_neg c, if_neg c]
def spCut (CR CN : Addr) : Sp := fun vs H Q _ => ∃ (nn : Addr), vs = [.ref nn] ∧ ∃ r wd bd cd ea rd n W cl ky D es, NtAt CR CN H nn r wd bd cd ea rd n W cl ky D es ∧ DOk n ky D ∧ Wok W ∧
  ∀ D' H', NtAt CR CN H' nn r wd bd cd ea rd n W cl ky D' es → DOk n ky D' → (∀ i j, i < n → j < n → D' i j ≤ W i j) → Km [rd] H H' → Q .non H'
/-! Nets.cut_down: slots 0 self, 1 pair -/
theorem sc_Nets_cut_down : FnScope ["self", "pair"] ["self"] (defScope s_Nets_cut_down) := ⟨rfl, rfl, rfl, by decide +kernel, rfl, by decide +kernel, by decide +kernel⟩
theorem ok_Nets_cut_down (T : Tops K mg CR CW CN CH) : HasM P w K mg base CN 1 "cut_down" ["self"] (spCut CR CN) := by
  refine hasM_of (k := 0) T.Nets_cut_down sc_Nets_cut_down (fun _ _ _ _ _ _ us hl => match us, hl with | [_], _ => rfl) (fun vs H Q E h => by
    obtain ⟨nn, rfl, _⟩ := h
    rfl) ?_
  intro f cdv A outer s H0 H vs Q E E0 hr h
  obtain ⟨nn, rfl, r, wd, bd, cd, ea, rd, n, W, cl, ky, D, es, g, d, wok, q⟩ := h
  have nd := (sc_Nets_cut_down).nd
  have hu := hu_of hr
  obtain ⟨dx, ho⟩ := g.ob
  obtain ⟨kvs, gg, hk, hpd, hgg⟩ := g.rw_
  have hle := g.rm.le
  refine bw_one (sw_for PassesOwn.never (iw_L (ew_Ty (call_list_dT rfl) T.b.b_list (aw_cons (EVgo (ev_fld (ev_name 0) (nt_fl T ho).2.2) fun H1 e1 => aw_nil ⟨rd, kvs, rfl, .inl (e1 _ _ hk), fun l bs nl hbs => ⟨l, rfl, ⟨_, .inl (.inl upd_same)⟩, ?_⟩⟩)))))
  have hprs := keys_prs hpd hbs
  generalize hpr : (kvs.map fun kv => kPr kv.1) = prs at hprs
  have hpm : ∀ a, a ∈ prs ↔ ky a.1 a.2 = true := fun a => by
    rw [← hpr]
    refine ((keys_nd hpd).2 a.1 a.2).trans ⟨fun ⟨v, hv⟩ => ?_, fun h => ⟨_, by rw [hgg, h]; rfl⟩⟩
    rw [hgg] at hv
    cases e : ky a.1 a.2 with
    | true => rfl
    | false =>
      rw [e] at hv
      cases hv
  have e2 : Ex H (upd H1 l (.lst (bs.map V.ref))) := e1.trans (Ex.new nl)
  have hl2 : (upd H1 l (.lst (bs.map V.ref))) l = some (.lst (bs.map V.ref)) := upd_same
  have hz3 : AllR PrR prs (bs.map V.ref) (upd H1 l (.lst (bs.map V.ref))) := hprs.imp fun a y r => r.kt (Kt.of (Ex.new nl))
  have flr : l ≠ rd := fun z => by
    rw [z, e1 _ _ hk] at nl
    cases nl
  generalize upd H1 l (.lst (bs.map V.ref)) = H2 at e2 hl2 hz3
  refine for_it walk_list (fun i σ' H' => ∃ (z : Option V) (D' : Mx), σ' = [some (.ref nn), z] ∧ NtAt CR CN H' nn r wd bd cd ea rd n W cl ky D' es ∧ DOk n ky D' ∧ Km [rd] H2 H' ∧ ∀ a ∈ prs.take i, D' a.1 a.2 ≤ W a.1 a.2) ⟨_, D, rfl, g.mono e2, d, Km.of (Ex.refl _), fun a ha => by simp at ha⟩ (fun i σ' H' _ ⟨_, _, _, _, _, k, _⟩ => .inl (.inl (k _ _ hl2 (by simpa using flr)))) ?_ ?_
  · rintro i x σ' H' H'' hi ⟨z, D', rfl, g', d', k', hd'⟩ ⟨rfl, hx⟩
    have hil : i < prs.length := by
      rw [← hz3.1]
      exact hi
    have ha := List.getElem?_eq_getElem hil
    generalize prs[i] = a at ha
    have ktr : Kt H2 H'' := k'.kt fun m hm xs z => by
      rw [List.mem_singleton.mp hm, e2 _ _ hk] at z
      cases z
    obtain ⟨t, rfl, ht⟩ := (hz3.2 i a x ha hx).kt ktr
    have hka := (hpm a).mp (List.mem_of_getElem? ha)
    obtain ⟨ha1, ha2, _, hkba⟩ := d.kin _ _ hka
    obtain ⟨dx', ho'⟩ := g'.ob
    obtain ⟨fr', _, fw'⟩ := nt_fl T ho'
    obtain ⟨⟨dxr, obr⟩, _, hwt, _⟩ := id g'.rm
    obtain ⟨_, fwr, _, _⟩ := rm_fl T obr
    obtain ⟨kv1, hk1, hv1⟩ := g'.rw_.val hka
    obtain ⟨kw, hkw, hvw⟩ := hwt.get ha1 ha2
    refine gw_name 1 (bw_one (sw_dput hu (EVgo (ev_min2 T.b.b_min (ev_itemTR (k := kp a.1 a.2) hu (ev_fld (ev_name 0) fw') (ev_name 1) ht (.inl hk1) hv1) (ev_get2R (k := kp a.1 a.2) hu (ev_fld (ev_fld (ev_name 0) fr') fwr) (ev_name 1) ht ev_int hkw hvw)) fun H3 e3 => EVgo (ev_fld (ev_name 0) (fw'.mono e3)) fun H4 e4 => EVgo (ev_name 1) fun H5 e5 => ?_)))
    have e35 := (e3.trans e4).trans e5
    obtain ⟨H6, hput, hrd6, k6⟩ := g'.rw_.put ha1 ha2 hle.2 hka e35 (min (D' a.1 a.2) (W a.1 a.2)) (e35 _ _ ht)
    refine ⟨rd, H6, rfl, hput, _, _, rfl, g'.rows k6 hrd6, ⟨fun x y => ?_, fun x y hxy => ?_, d.kin⟩, k'.trans k6, fun b hb => ?_⟩
    · show 0 ≤ (if x = a.1 ∧ y = a.2 then min (D' a.1 a.2) (W a.1 a.2) else D' x y)
      have h1 := d'.nn a.1 a.2
      have h2 := wok.nn a.1 a.2
      have h3 := d'.nn x y
      by_cases c : x = a.1 ∧ y = a.2
      · rw [if_pos c]
        omega
      · rw [if_neg c]
        exact h3
    · show (if x = a.1 ∧ y = a.2 then min (D' a.1 a.2) (W a.1 a.2) else D' x y) = 0
      rw [if_neg fun c => by rw [c.1, c.2, hka] at hxy; cases hxy]
      exact d'.out x y hxy
    · show (if b.1 = a.1 ∧ b.2 = a.2 then min (D' a.1 a.2) (W a.1 a.2) else D' b.1 b.2) ≤ W b.1 b.2
      rw [take_snoc ha] at hb
      by_cases c : b.1 = a.1 ∧ b.2 = a.2
      · rw [if_pos c, c.1, c.2]
        exact Int.min_le_right _ _
      · rw [if_neg c]
        rcases List.mem_append.mp hb with h | h
        · exact hd' b h
        · rw [List.mem_singleton.mp h] at c
          exact absurd ⟨rfl, rfl⟩ c
  · rintro σ' H' ⟨z, D', rfl, g', d', k', hd'⟩
    rw [hz3.1, List.take_length] at hd'
    refine q D' H' g' d' (fun i j hi hj => ?_) ((Km.of e2).trans k')
    cases e : ky i j with
    | true => exact hd' (i, j) ((hpm (i, j)).mpr e)
    | false =>
      rw [d'.out i j e]
      exact wok.nn i j
end
end Cut


namespace Cut
open PySem PySem.Spec PyProof.Rows L2 Evl
section
variable {X : Cx} {σ : L2.St} {H : Hp} {pos apos p2 : Pos} {o e : Expr} {Q : VK} {l : Addr}
/-- xs.index(place) -/
theorem ev_index {ns : List Nat} {k z : Nat} (ho : EV X o σ H (.ref l)) (hl : H l = some (.lst (ns.map iV))) (he : EV X e σ H (iV z)) (hk : ns[k]? = some z) (hno : ∀ m, m < k → ns[m]? ≠ some z)
    (hbase : attributeBase o "index" X.env (eval o X.env) = eval o X.env := by rfl)
    (hfew : ((backTo pos (starEach [e] X.env)).all (fun x => !x.1) && (backToKw pos (keywordEach [] X.env)).all (fun x => x.1.isSome) && decide ([e].length + ([] : List Keyword).length + (if ([] : List Keyword).isEmpty then 0 else 1) < 30)) = true := by rfl)
    (hline : (apos.endLine == pos.line) = true := by rfl) (hs : starEach [e] X.env = (false, eval e X.env) :: starEach [] X.env := by rfl) (hplain : (backTo pos (starEach [] X.env)).any (·.1) = false := by rfl) : EV X (.Call (.Attribute o "index" apos) [e] [] pos) σ H (.int (k : Int)) := fun H1 e1 Q q =>
  ew_of (pe_bm PySem.F.plainAttrs_list PySem.F.slot_list_index PySem.F.type_list_index mt_index pe_w pa_w hbase hfew hline hs hplain) (EVgo (te := EW X o) (Evl.Ev.mono e1 ho) fun H2 e2 => ⟨.inl ⟨rfl, _, .inl (.inl (e2 _ _ (e1 _ _ hl)))⟩, aw_cons (EVgo (te := EW X e) (Evl.Ev.mono (e1.trans e2) he) fun H3 e3 => aw_nil ⟨l, ns.map iV, iV z, k, iV z, rfl, rfl, .inl (.inl (e3 _ _ (e2 _ _ (e1 _ _ hl)))), rfl, flat_iV _, by rw [List.getElem?_map, hk]; rfl, by show ((z : Int) == (z : Int)) = true; exact beq_self_eq_true _, fun m z' hm hz' => by
    rw [List.getElem?_map] at hz'
    cases e : ns[m]? with
    | none => rw [e] at hz'; cases hz'
    | some y =>
      rw [e] at hz'
      cases hz'
      show ((y : Int) == (z : Int)) = false
      rw [beq_eq_false_iff_ne]
      intro w
      exact hno m hm (by rw [e]; congr 1; omega), q H3 (e2.trans e3)⟩) hs⟩)
/-- xs[k:] -/
theorem ew_from {k : Nat} {xs : List V} (ho : EV X o σ H (.ref l)) (hl : H l = some (.lst xs)) (he : EV X e σ H (.int (k : Int))) (hk : k ≤ xs.length) (q : ∀ p H1, Ex H H1 → H p = none → H1 p = some (.lst (xs.drop k)) → Q (.ref p) H1) : EW X (.Subscript o (.Slice (some e) none none p2) pos) σ H Q :=
  ew_of (pe_slice sl_list pe_w (po_some pe_w) po_none) (EVgo (te := EW X o) ho fun H1 e1 => EVgo (te := EW X e) (Evl.Ev.mono e1 he) fun H2 e2 => ⟨_, rfl, l, xs, rfl, .inl (.inl (e2 _ _ (e1 _ _ hl))), fun p np => q p _ ((e1.trans e2).trans (Ex.new np)) (Evl.fresh_back (e1.trans e2) np) (by
    rw [upd_same]
    unfold cutV
    rw [HT.sIx_none, HT.sIx_nat, Nat.min_eq_left hk, List.take_of_length_le (by rw [List.length_drop]; exact Nat.le_refl _)])⟩)
theorem first_at (z : Nat) : ∀ l : List Nat, z ∈ l → ∃ k : Nat, l[k]? = some z ∧ ∀ m : Nat, m < k → l[m]? ≠ some z
  | [], h => by cases h
  | a :: l, h => by
    by_cases c : a = z
    · exact ⟨0, by rw [c]; rfl, fun m hm => by omega⟩
    · obtain ⟨k, h1, h2⟩ := first_at z l ((List.mem_cons.mp h).resolve_left (Ne.symm c))
      refine ⟨k + 1, h1, fun m hm => ?_⟩
      cases m with
      | zero => exact fun e => c (Option.some.inj e)
      | succ m => exact h2 m (by omega)
end
section
variable {P : Program} {w : World} {K : PySem.W.Frag} {mg : Str → Option Value} {base : Heap} {CR CW CN CH : Addr}
/-- a way of rows back or on, or a ring of rows -/
def spWalk (CR CN : Addr) : Sp := fun vs H Q _ => ∃ (nn : Addr) (u : Nat) (b : Bool), vs = [.ref nn, .int (u : Int), .bl b] ∧ ∃ r wd bd cd ea rd n W cl ky D es, NtAt CR CN H nn r wd bd cd ea rd n W cl ky D es ∧ DOk n ky D ∧ u < n ∧ 0 < sg b * sur n D u ∧
  ∀ (t fa : Addr) (ps : List (Nat × Nat)) (ys : List V) (x y : Nat) (H' : Hp), Ex H H' → H' t = some (.tup [.ref fa, .int (y : Int)]) → H' fa = some (.lst ys) → AllR PrR ps ys H' → ps ≠ [] → ps.Nodup → Trl n D b ps x y → y < n → ((x = u ∧ y ≠ u ∧ (y ∈ es ∨ sg b * sur n D y < 0)) ∨ x = y) → Q (.ref t) H'
theorem sg_wanted (b : Bool) : (1 : Int) - 2 * (if b then 1 else 0) = - sg b := by cases b <;> rfl
theorem sg_small (b : Bool) : -(2 ^ 64) < - sg b ∧ - sg b < 2 ^ 64 := by cases b <;> decide
/-! Nets.walk: slots 0 self, 1 place, 2 is_back, 3 found, 4 passed, 5 wanted, 6 pair, 7 other -/
theorem sc_Nets_walk : FnScope ["self", "place", "is_back", "found", "passed", "wanted", "pair", "other"] ["self", "place", "is_back"] (defScope s_Nets_walk) := ⟨rfl, rfl, rfl, by decide +kernel, rfl, by decide +kernel, by decide +kernel⟩
theorem ok_Nets_walk (T : Tops K mg CR CW CN CH) (hsu : HasM P w K mg base CN 1 "surplus" ["self", "place"] (spSur CR CN)) (hra : HasM P w K mg base CN 1 "row_at" ["self", "place", "is_back"] (spRowAt CR CN)) : HasM P w K mg base CN 2 "walk" ["self", "place", "is_back"] (spWalk CR CN) := by
  refine hasM_of (k := 1) T.Nets_walk sc_Nets_walk (fun _ _ _ _ _ _ us hl => match us, hl with | [_, _, _], _ => rfl) (fun vs H Q E h => by
    obtain ⟨nn, u, b, rfl, _⟩ := h
    rfl) ?_
  intro f cdv A outer s H0 H vs Q E E0 hr h
  obtain ⟨nn, u, b, rfl, r, wd, bd, cd, ea, rd, n, W, cl, ky, D, es, g, d, hu, hpos, q⟩ := h
  have nd := (sc_Nets_walk).nd
  obtain ⟨dx, ho⟩ := g.ob
  have hle := g.rm.le
  refine bw_cons (sw_set 3 (ELgo (evl_lst av_nil) fun fa H1 nfa e1 hfa => ?_))
  have ffa : H fa = none := nfa
  refine bw_cons (sw_set 4 (ELgo (evl_lst (av_cons (ev_name 1) av_nil)) fun pa H2 npa e2 hpa => ?_))
  have fpa : H pa = none := Evl.fresh_back e1 npa
  have nfp : fa ≠ pa := fun z => by
    rw [← z, hfa] at npa
    cases npa
  refine bw_cons (sw_set 5 (EVgo (ev_is (w := .int (- sg b)) (ev_sub ev_int (ev_mul ev_int (ev_intB T.b.b_int (ev_name 2)) (.inl ⟨by decide, by decide⟩))) (by rw [sg_wanted])) fun H3 e3 => ?_))
  have e03 := (e1.trans e2).trans e3
  have fl : ∀ {x z : Nat}, ([iV (mkp b x z).1, iV (mkp b x z).2] : List V)[if b then 0 else 1]? = some (iV z) := fun {x z} => by cases b <;> rfl
  refine bw_cons (sw_whileM PassesOwn.never (fun m σ' H' => ∃ (zp zo : Option V) (pre : List Nat) (x : Nat) (ps : List (Nat × Nat)) (ys : List V), σ' = [some (.ref nn), some (.int (u : Int)), some (.bl b), some (.ref fa), some (.ref pa), some (.int (- sg b)), zp, zo] ∧ m = n - pre.length ∧ Ex H H' ∧ H' fa = some (.lst ys) ∧ AllR PrR ps ys H' ∧ H' pa = some (.lst ((pre ++ [x]).map iV)) ∧ ps.length = pre.length ∧ (pre ++ [x]).Nodup ∧ (∀ v ∈ pre ++ [x], v < n) ∧ (pre ++ [x])[0]? = some u ∧ ∀ (k a c : Nat), (pre ++ [x])[k]? = some a → (pre ++ [x])[k + 1]? = some c → ps[k]? = some (mkp b a c) ∧ 0 < D (mkp b a c).1 (mkp b a c).2) n ⟨_, _, [], u, [], [], rfl, by simp, e03, e3 _ _ (e2 _ _ hfa), AllR.nil, e3 _ _ hpa, rfl, by simp, fun v hv => by rw [List.mem_singleton.mp hv]; exact hu, rfl, fun k a c _ h2 => by simp at h2⟩ ?_)
  rintro m σ' H' ⟨zp, zo, pre, x, ps, ys, rfl, rfl, e4, hf4, hall, hp4, hlen, hnd, hlt, h0, hstep⟩
  have hxn : x < n := hlt x (by simp)
  have hpl : (pre ++ [x]).length ≤ n := nodup_lt n _ hnd hlt
  rw [List.length_append, List.length_singleton] at hpl
  have g4 := g.mono e4
  obtain ⟨dx4, ho4⟩ := g4.ob
  obtain ⟨_, fe4, _⟩ := nt_fl T ho4
  have lastE : ∀ {Hx : Hp} {σ2 : L2.St} {p1 p2 p3 p4 : Pos} {j : Nat}, Ex H' Hx → σ2[4]? = some (some (.ref pa)) → EV (CxD P w K mg base ["self", "place", "is_back", "found", "passed", "wanted", "pair", "other"] "Nets.walk" s_Nets_walk f cdv A outer s H0 E0) (.Subscript (.Name "passed" p1) (.UnaryOp .USub (.Constant (.int 1) j p2) p3) p4) σ2 Hx (iV x) := fun e hs => ev_ixL (ev_name 4 rfl (by first | exact Or.inl rfl | exact Or.inr (Or.inl rfl) | exact Or.inr (Or.inr rfl)) hs) (ev_neg ev_int) (.inl (.inl (e _ _ hp4))) (by rw [List.map_append]; exact atI_last _ _)
  refine TVgo (b := decide (V.int (ys.length : Int) = V.int 0) || (!decide (x ∈ es) && decide (sur n D x * (- sg b) ≤ 0))) (tv_bool (wv_or (tv_eq (ev_len T.b.b_len (ev_name 3) (.inl (.inl (.inl hf4)))) ev_int) fun _ => wv_one_or (tv_bool (wv_and (tv_is (tv_niS (x := iV x) (lastE (Ex.refl _) rfl) (ev_fld (ev_name 0) fe4) (.inr (SqT.of g4.en)) rfl (flat_iV _)) (by rw [in_iV])) fun _ => wv_one_and (tv_le (ev_mul (ev_meth hsu T.cNets.cl hr (ev_name 0) ho4 rfl (av_cons (lastE (Ex.refl _) rfl) av_nil) (fun H5 e5 => ⟨nn, x, rfl, r, wd, bd, cd, ea, rd, n, W, cl, ky, D, es, g4.mono e5, d, hxn, rfl⟩)) (ev_name 5) (.inr (sg_small b))) ev_int))))) fun H5 e5 => ?_
  have hyl : ys.length = pre.length := by rw [hall.1, hlen]
  have smul : sur n D x * (- sg b) = - (sg b * sur n D x) := by
    rw [Int.mul_neg, Int.mul_comm]
  refine ite2 (fun hd => ?_) (fun hd => ?_)
  · have hex : ∃ z, z < n ∧ 0 < D (mkp b x z).1 (mkp b x z).2 := by
      cases pre with
      | nil =>
        have : x = u := Option.some.inj h0
        rw [this]
        exact has_row d hpos
      | cons a pre' =>
        have hn0 : ¬ V.int (ys.length : Int) = V.int 0 := fun z => by
          have := V.int.inj z
          rw [hyl, List.length_cons] at this
          omega
        rw [decide_eq_false hn0, Bool.false_or, Bool.and_eq_true, smul] at hd
        have hs := of_decide_eq_true hd.2
        -- the row before
        have hk : ((a :: pre') ++ [x])[pre'.length + 1]? = some x := by
          rw [List.getElem?_append_right (by rw [List.length_cons]; omega), List.length_cons, Nat.sub_self]
          rfl
        obtain ⟨c, hc⟩ : ∃ c, ((a :: pre') ++ [x])[pre'.length]? = some c := ⟨_, List.getElem?_eq_getElem (by rw [List.length_append, List.length_cons]; omega)⟩
        obtain ⟨_, hD⟩ := hstep _ c x hc hk
        exact has_row2 d (hlt c (List.mem_of_getElem? hc)) hD (by omega)
    have g5 := g4.mono e5
    refine bw_cons (sw_set 6 (ew_meth hra T.cNets.cl hr (EVgo (ev_name 0) fun H6 e6 => ⟨nn, dx4, _, rfl, e6 _ _ (e5 _ _ ho4), rfl, AVgo (av_cons (lastE (e5.trans e6) rfl) (av_cons (ev_name 2) av_nil)) fun H7 e7 => ⟨nn, x, b, rfl, r, wd, bd, cd, ea, rd, n, W, cl, ky, D, es, g5.mono (e6.trans e7), d, hex, fun t z H8 e8 hz hDz ht => ?_⟩⟩)))
    have e48 := (e5.trans e6).trans (e7.trans e8)
    refine bw_cons (sw_expr (ew_append (l := fa) (ev_name 3) ⟨_, e48 _ _ hf4⟩ fun H9 e9 => EVgo (ev_name 6) fun H10 e10 => ⟨_, e10 _ _ (e9 _ _ (e48 _ _ hf4)), by rw [hyl]; exact Evl.sz_lt (by omega), ?_⟩))
    have x10 : Ex H H10 := ((e4.trans e48).trans e9).trans e10
    have k11 : Km [fa] H (upd H10 fa (.lst (ys ++ [.ref t]))) := (Km.of x10).upd (by simp)
    have x11 : Ex H (upd H10 fa (.lst (ys ++ [.ref t]))) := Km.nil ((Km.of (M := []) (Ex.refl H)).drop k11 (by simp [ffa]))
    have t11 : Kt H8 (upd H10 fa (.lst (ys ++ [.ref t]))) := (Kt.of (e9.trans e10)).trans (Kt.updL (e10 _ _ (e9 _ _ (e48 _ _ hf4))))
    have f11 : (upd H10 fa (.lst (ys ++ [.ref t]))) fa = some (.lst (ys ++ [.ref t])) := upd_same
    have p11 : (upd H10 fa (.lst (ys ++ [.ref t]))) pa = some (.lst ((pre ++ [x]).map iV)) := by
      rw [upd_ne (Ne.symm nfp)]
      exact e10 _ _ (e9 _ _ (e48 _ _ hp4))
    have all11 : AllR PrR (ps ++ [mkp b x z]) (ys ++ [.ref t]) (upd H10 fa (.lst (ys ++ [.ref t]))) := (hall.imp fun a y r => (r.kt (Kt.of e48)).kt t11).snoc ⟨t, rfl, t11 _ _ ht⟩
    have ht11 := t11 _ _ ht
    generalize upd H10 fa (.lst (ys ++ [.ref t])) = H11 at x11 t11 f11 p11 all11 ht11
    refine bw_cons (sw_set 7 (EVgo (ev_ixTn (if b then 0 else 1) (ev_name 6) (ev_sub ev_int (ev_intB T.b.b_int (ev_name 2))) (SqT.of ht11) fl (by cases b <;> rfl)) fun H12 e12 => ?_))
    have hstep' : ∀ (k a c : Nat), ((pre ++ [x]) ++ [z])[k]? = some a → ((pre ++ [x]) ++ [z])[k + 1]? = some c → (ps ++ [mkp b x z])[k]? = some (mkp b a c) ∧ 0 < D (mkp b a c).1 (mkp b a c).2 := fun k a c h1 h2 => by
      by_cases hk : k + 1 < (pre ++ [x]).length
      · rw [List.getElem?_append_left (by omega)] at h1
        rw [List.getElem?_append_left hk] at h2
        obtain ⟨s1, s2⟩ := hstep k a c h1 h2
        exact ⟨by rw [List.getElem?_append_left (List.getElem?_eq_some_iff.mp s1).1]; exact s1, s2⟩
      · have h3 := (List.getElem?_eq_some_iff.mp h2).1
        rw [List.length_append, List.length_append, List.length_singleton, List.length_singleton] at h3
        rw [List.length_append, List.length_singleton] at hk
        have hk2 : k = pre.length := by omega
        subst hk2
        rw [List.getElem?_append_right (by rw [List.length_append, List.length_singleton]; omega), List.length_append, List.length_singleton, Nat.sub_self] at h2
        have e2 : z = c := Option.some.inj h2
        rw [List.getElem?_append_left (by rw [List.length_append, List.length_singleton]; omega), List.getElem?_append_right (Nat.le_refl _), Nat.sub_self] at h1
        have e1 : x = a := Option.some.inj h1
        rw [← e1, ← e2]
        refine ⟨?_, hDz⟩
        rw [List.getElem?_append_right (by omega), hlen, Nat.sub_self]
        rfl
    have hlt' : ∀ v ∈ (pre ++ [x]) ++ [z], v < n := fun v hv => by
      rcases List.mem_append.mp hv with h | h
      · exact hlt v h
      · rw [List.mem_singleton.mp h]
        exact hz
    refine bw_cons (sw_ifV (tv_inS (x := iV z) (ev_name 7) (ev_name 4) (.inl (.inl (.inl (e12 _ _ p11)))) rfl (flat_iV _)) ?_ ?_)
    · rw [in_iV]
      intro hb H13 e13
      have hzm : z ∈ pre ++ [x] := of_decide_eq_true hb
      obtain ⟨k, hk, hno⟩ := first_at z _ hzm
      have hkl := (List.getElem?_eq_some_iff.mp hk).1
      rw [List.length_append, List.length_singleton] at hkl
      have e1113 := e12.trans e13
      refine bw_one (sw_ret (ew_tup (aw_cons (ew_from (k := k) (ev_name 3) (e1113 _ _ f11) (ev_index (ev_name 4) (e1113 _ _ p11) (ev_name 7) hk hno) (by rw [List.length_append, List.length_singleton, hyl]; omega) fun fb H14 e14 nfb hfb => aw_cons (EVgo (ev_name 7) fun H15 e15 => aw_nil ⟨by show 2 ≤ sizeLine; decide, fun tt ntt => ?_⟩)))))
      have e16 := (e1113.trans (e14.trans e15)).trans (Ex.new (o := .tup [.ref fb, iV z]) ntt)
      have hl' : ((pre ++ [x]) ++ [z]).length = (ps ++ [mkp b x z]).length + 1 := by
        rw [List.length_append, List.length_append, List.length_append, hlen]
        rfl
      have hlast : ((pre ++ [x]) ++ [z])[(ps ++ [mkp b x z]).length]? = some z := by
        rw [List.getElem?_append_right (by rw [List.length_append, List.length_append, hlen]; exact Nat.le_refl _), List.length_append, List.length_append, hlen]
        show [z][pre.length + 1 - (pre.length + 1)]? = some z
        rw [Nat.sub_self]
        rfl
      have hkz : ((pre ++ [x]) ++ [z])[k]? = some z := by
        rw [List.getElem?_append_left (by rw [List.length_append, List.length_singleton]; omega)]
        exact hk
      have htr := trl_of hl' hlt' hstep' hlast ((ps ++ [mkp b x z]).length - k) k z (by rw [List.length_append, List.length_singleton]; omega) hkz
      have hnd2 : (ps ++ [mkp b x z]).Nodup := pairs_nd (b := b) hnd fun k p hp => by
        have hkl := (List.getElem?_eq_some_iff.mp hp).1
        rw [List.length_append, List.length_singleton, hlen] at hkl
        have ha : k < ((pre ++ [x]) ++ [z]).length := by
          rw [List.length_append, List.length_append, List.length_singleton, List.length_singleton]
          omega
        have hc : k + 1 < ((pre ++ [x]) ++ [z]).length := by
          rw [List.length_append, List.length_append, List.length_singleton, List.length_singleton]
          omega
        obtain ⟨s1, _⟩ := hstep' k _ _ (List.getElem?_eq_getElem ha) (List.getElem?_eq_getElem hc)
        rw [hp] at s1
        refine ⟨_, _, ?_, Option.some.inj s1⟩
        have hka : k < (pre ++ [x]).length := by
          rw [List.length_append, List.length_singleton]
          omega
        rw [List.getElem?_eq_getElem hka, List.getElem_append_left hka]
      refine q tt fb ((ps ++ [mkp b x z]).drop k) ((ys ++ [V.ref t]).drop k) z z _ (x11.trans e16) upd_same (Ex.new ntt _ _ (e15 _ _ hfb)) ⟨by rw [List.length_drop, List.length_drop, all11.1], fun i a y h1 h2 => ?_⟩ ?_ (List.Nodup.sublist (List.drop_sublist _ _) hnd2) htr hz (.inr rfl)
      · rw [List.getElem?_drop] at h1 h2
        exact (all11.2 _ a y h1 h2).kt (Kt.of e16)
      · intro z0
        have := congrArg List.length z0
        rw [List.length_drop, List.length_append, List.length_singleton, List.length_nil] at this
        omega
    · rw [in_iV]
      intro hb H13 e13
      have hzm : z ∉ pre ++ [x] := of_decide_eq_false hb
      have e1113 := e12.trans e13
      refine bw_nil (bw_one (sw_expr (ew_append (l := pa) (ev_name 4) ⟨_, e1113 _ _ p11⟩ fun H14 e14 => EVgo (ev_name 7) fun H15 e15 => ⟨_, e15 _ _ (e14 _ _ (e1113 _ _ p11)), by rw [List.length_map, List.length_append, List.length_singleton]; exact Evl.sz_lt (by omega), ?_⟩)))
      have e1115 := (e1113.trans e14).trans e15
      have k16 : Km [pa] H (upd H15 pa (.lst ((pre ++ [x]).map iV ++ [iV z]))) := (Km.of (x11.trans e1115)).upd (by simp)
      have t16 : Kt H11 (upd H15 pa (.lst ((pre ++ [x]).map iV ++ [iV z]))) := (Kt.of e1115).trans (Kt.updL (e1115 _ _ p11))
      have hnd' : ((pre ++ [x]) ++ [z]).Nodup := List.nodup_append.mpr ⟨hnd, by simp, fun a ha c hc => by
        rw [List.mem_singleton.mp hc]
        exact fun z0 => hzm (z0 ▸ ha)⟩
      have hpl' := nodup_lt n _ hnd' hlt'
      rw [List.length_append, List.length_append, List.length_singleton, List.length_singleton] at hpl'
      refine ⟨n - (pre ++ [x]).length, by rw [List.length_append, List.length_singleton]; omega, _, _, pre ++ [x], z, ps ++ [mkp b x z], ys ++ [V.ref t], rfl, rfl, Km.nil ((Km.of (M := []) (Ex.refl H)).drop k16 (by simp [fpa])), by rw [upd_ne nfp]; exact e1115 _ _ f11, all11.imp fun a y r => r.kt t16, by rw [upd_same, List.map_append (l₂ := [z])]; rfl, by rw [List.length_append, List.length_append, hlen]; rfl, hnd', hlt', ?_, hstep'⟩
      rw [List.getElem?_append_left (by rw [List.length_append, List.length_singleton]; omega)]
      exact h0
  · -- the walk is over
    rw [Bool.or_eq_true] at hd
    have hne : pre ≠ [] := fun z => by
      apply hd
      left
      rw [hyl, z]
      rfl
    have hend : x ∈ es ∨ sg b * sur n D x < 0 := by
      refine Decidable.byContradiction fun hc => hd (.inr ?_)
      have h1 : x ∉ es := fun z => hc (.inl z)
      have h2 : ¬ sg b * sur n D x < 0 := fun z => hc (.inr z)
      rw [decide_eq_false h1, smul, decide_eq_true (by omega)]
      rfl
    refine bw_one (sw_ret (ew_tup (aw_cons (EVgo (ev_name 3) fun H6 e6 => aw_cons (EVgo (lastE (e5.trans e6) rfl) fun H7 e7 => aw_nil ⟨by show 2 ≤ sizeLine; decide, fun tt ntt => ?_⟩)))))
    have e8 := ((e5.trans e6).trans e7).trans (Ex.new (o := .tup [.ref fa, iV x]) ntt)
    have hl' : (pre ++ [x]).length = ps.length + 1 := by rw [List.length_append, hlen]; rfl
    have hlast : (pre ++ [x])[ps.length]? = some x := by
      rw [hlen, List.getElem?_append_right (Nat.le_refl _), Nat.sub_self]
      rfl
    have htr := trl_of hl' hlt hstep hlast ps.length 0 u (by omega) h0
    rw [List.drop_zero] at htr
    have hnd2 : ps.Nodup := pairs_nd (b := b) hnd fun k p hp => by
      have hkl := (List.getElem?_eq_some_iff.mp hp).1
      have ha : k < (pre ++ [x]).length := by omega
      have hc : k + 1 < (pre ++ [x]).length := by omega
      obtain ⟨s1, _⟩ := hstep k _ _ (List.getElem?_eq_getElem ha) (List.getElem?_eq_getElem hc)
      rw [hp] at s1
      exact ⟨_, _, List.getElem?_eq_getElem ha, Option.some.inj s1⟩
    refine q tt fa ps ys u x _ (e4.trans e8) upd_same (e8 _ _ hf4) (hall.imp fun a y r => r.kt (Kt.of e8)) (fun z => ?_) hnd2 htr hxn (.inl ⟨rfl, fun z => ?_, hend⟩)
    · rw [z] at hlen
      exact hne (List.length_eq_zero_iff.mp hlen.symm)
    · have i0 := (List.getElem?_eq_some_iff.mp h0).1
      have il := (List.getElem?_eq_some_iff.mp hlast).1
      have h1 := List.pairwise_iff_getElem.mp hnd 0 ps.length i0 il (by
        rw [hlen]
        exact List.length_pos_iff.mpr hne)
      rw [(List.getElem?_eq_some_iff.mp h0).2, (List.getElem?_eq_some_iff.mp hlast).2] at h1
      exact h1 z.symm
end
end Cut


namespace Cut
open PySem PySem.Spec PyProof.Rows L2 Evl
theorem subL_snoc : ∀ {ps : List (Nat × Nat)} {D : Mx} {p : Nat × Nat} {c : Int}, subL D (ps ++ [p]) c = sub1 (subL D ps c) p c
  | [], _, _, _ => rfl
  | a :: ps, D, p, c => by
    show subL (sub1 D a c) (ps ++ [p]) c = sub1 (subL (sub1 D a c) ps c) p c
    exact subL_snoc
section
variable {X : Cx} {σ : L2.St} {H : Hp} {pos : Pos} {o i e : Expr} {D : Ends}
/-- d[k] -= e -/
theorem sw_daugM {a t : Addr} {k : List Key} {kvs : List (List Key × V)} {n m : Int} {tpos : Pos} (hu : X.A.units + 1 < cLine) (ho : EV X o σ H (.ref a)) (hi : EV X i σ H (.ref t)) (ha : H a = some (.dT kvs)) (ht : H t = some (.tup (k.map kV))) (hv : valV kvs k = some (.int n)) (he : EV X e σ H (.int m)) (q : ∀ H1, Ex H H1 → ∃ H2, DPut H1 a (.ref t) (.int (n - m)) H2 ∧ D.nx σ H2)
    (hs : ∀ ov iv new, augStore i ov iv new = (do holding [new, ov, iv] (setItem ov iv new); release [new, ov, iv] []; pure .next) := by intros; rfl) : SW X (.AugAssign (.Subscript o i tpos) .Sub e pos) D σ H :=
  sw_of (ps_daug hu pe_w pe_w pe_w in_sub hs) (EVgo (te := EW X o) ho fun H1 e1 => EVgo (te := EW X i) (Evl.Ev.mono e1 hi) fun H2 e2 => ⟨a, .int n, rfl, hv ▸ DGet.t (e2 _ _ (e1 _ _ ha)) (e2 _ _ (e1 _ _ ht)), EVgo (te := EW X e) (Evl.Ev.mono (e1.trans e2) he) fun H3 e3 => ⟨n, m, rfl, rfl, q H3 ((e1.trans e2).trans e3)⟩⟩)
theorem ev_abs {p : Pos} {a : Expr} {n : Int} (hm : X.mg "abs" = none) (ha : EV X a σ H (.int n)) (hg : Gl X "abs" := by rfl) (he : starEach [a] X.env = (false, eval a X.env) :: starEach [] X.env := by rfl) : EV X (.Call (.Name "abs" p) [a] [] pos) σ H (.int (if n < 0 then -n else n)) :=
  ev_B call_abs hm (av_cons ha av_nil he) (fun H1 e1 Q q => ⟨n, rfl, q H1 (Ex.refl H1)⟩) (by decide +kernel) hg (by decide) (by decide) he
end
section
variable {P : Program} {w : World} {K : PySem.W.Frag} {mg : Str → Option Value} {base : Heap} {CR CW CN CH : Addr}
def spSettle (CR CN : Addr) : Sp := fun vs H Q _ => ∃ (nn : Addr) (u : Nat) (b : Bool), vs = [.ref nn, .int (u : Int), .bl b] ∧ ∃ r wd bd cd ea rd n W cl ky D es, NtAt CR CN H nn r wd bd cd ea rd n W cl ky D es ∧ DOk n ky D ∧ u < n ∧ u ∉ es ∧ 0 < sg b * sur n D u ∧
  ∀ D' H', NtAt CR CN H' nn r wd bd cd ea rd n W cl ky D' es → DOk n ky D' → (∀ i j, D' i j ≤ D i j) → (∀ v, v < n → v ∉ es → Shr (sur n D v) (sur n D' v)) → sD n D' < sD n D → Km [rd] H H' → Q .non H'
theorem trl_lt {n : Nat} {D : Mx} {b : Bool} {ps : List (Nat × Nat)} {x y : Nat} (t : Trl n D b ps x y) : ∀ p ∈ ps, p.1 < n ∧ p.2 < n := by
  induction t with
  | nil x => exact fun p hp => by cases hp
  | cons hx hz hd t ih =>
    intro p hp
    rcases List.mem_cons.mp hp with rfl | h
    · exact mkp_lt hx hz
    · exact ih p h
theorem sg_mul (b : Bool) (x : Int) : sg b * x = if b then x else - x := by
  cases b
  · show (-1 : Int) * x = - x
    omega
  · show (1 : Int) * x = x
    omega
/-! Nets.settle: slots 0 self, 1 place, 2 is_back, 3 rows, 4 end, 5 number, 6 pair -/
theorem sc_Nets_settle : FnScope ["self", "place", "is_back", "rows", "end", "number", "pair"] ["self", "place", "is_back"] (defScope s_Nets_settle) := ⟨rfl, rfl, rfl, by decide +kernel, rfl, by decide +kernel, by decide +kernel⟩
theorem ok_Nets_settle (T : Tops K mg CR CW CN CH) (hsu : HasM P w K mg base CN 1 "surplus" ["self", "place"] (spSur CR CN)) (hwa : HasM P w K mg base CN 2 "walk" ["self", "place", "is_back"] (spWalk CR CN)) : HasM P w K mg base CN 3 "settle" ["self", "place", "is_back"] (spSettle CR CN) := by
  refine hasM_of (k := 2) T.Nets_settle sc_Nets_settle (fun _ _ _ _ _ _ us hl => match us, hl with | [_, _, _], _ => rfl) (fun vs H Q E h => by
    obtain ⟨nn, u, b, rfl, _⟩ := h
    rfl) ?_
  intro f cdv A outer s H0 H vs Q E E0 hr h
  obtain ⟨nn, u, b, rfl, r, wd, bd, cd, ea, rd, n, W, cl, ky, D, es, g, d, hu, hue, hpos, q⟩ := h
  have nd := (sc_Nets_settle).nd
  have huu := hu_of hr
  obtain ⟨dx, ho⟩ := g.ob
  have hle := g.rm.le
  refine bw_cons (sw_asg (ew_meth hwa T.cNets.cl hr (EVgo (ev_name 0) fun H1 e1 => ⟨nn, dx, _, rfl, e1 _ _ ho, rfl, AVgo (av_cons (ev_name 1) (av_cons (ev_name 2) av_nil)) fun H2 e2 => ⟨nn, u, b, rfl, r, wd, bd, cd, ea, rd, n, W, cl, ky, D, es, g.mono (e1.trans e2), d, hu, hpos, fun t fa ps ys x y H3 e3 ht hfa hall hne hnd htr hy hcase => ?_⟩⟩)))
  have e03 := (e1.trans e2).trans e3
  have g3 := g.mono e03
  have hx : x < n := by
    cases htr with
    | nil => exact hy
    | cons hx _ _ _ => exact hx
  have hpl := trl_lt htr
  have hpp := trl_mem htr
  have hpk : ∀ p ∈ ps, ky p.1 p.2 = true := fun p hp => d.key (hpp p hp)
  have hz49 : ps.length ≤ 49 := by
    have h1 : (ps.map fun p => p.1 * n + p.2).Nodup := List.pairwise_map.mpr (List.Pairwise.imp_of_mem (fun {a b} ha hb z e => z (by
      obtain ⟨e1, e2⟩ := code_inj (hpl a ha).2 (hpl b hb).2 e
      exact Prod.ext e1 e2)) hnd)
    have h2 := nodup_lt (n * n) _ h1 fun x hx => by
      obtain ⟨t, ht, rfl⟩ := List.mem_map.mp hx
      exact code_lt (hpl t ht).1 (hpl t ht).2
    rw [List.length_map] at h2
    exact Nat.le_trans h2 (Nat.mul_le_mul hle.2 hle.2)
  refine gw_tup (n := 2) (SqT.of ht) (gws_cons (gw_name 3 (gws_cons (gw_name 4 (gws_nil ?_)))))
  obtain ⟨dx3, ho3⟩ := g3.ob
  obtain ⟨_, fe3, fw3⟩ := nt_fl T ho3
  obtain ⟨kvs, gg, hk, hpd, hgg⟩ := g3.rw_
  have hval : ∀ p ∈ ps, valV kvs (kp p.1 p.2) = some (.int (D p.1 p.2)) := fun p hp => by
    rw [hpd.val, hgg, hpk p hp]
    rfl
  refine bw_cons (sw_set 5 (ew_B (cr_min rfl) T.b.b_min (aw_cons (ew_lc (own := [("pair", 6)]) (lc_seq (l := ps) (pf := fun _ => true) (Fx := fun p x H => PrR p x H) (R := fun p y H => y = .int (D p.1 p.2)) (sg := fun p x => [some (.ref nn), some (.int (u : Int)), some (.bl b), some (.ref fa), some (.int (y : Int)), none, some x]) (ev_name 3) (.inl (.inl (.inl hfa))) hall.1.symm (by rw [hall.1]; omega) (fun i p x H2 hp hx e2 => (hall.2 i p x hp hx).kt (Kt.of e2)) (fun p x H1 H2 h e => h.kt (Kt.of e)) ?_ (fun _ _ => rfl) (fun _ _ _ _ _ _ => et_yes) ?_ (fun p y H1 H2 h k => h) ?_)))))
  · rintro p _ x H4 e4 _ s0 H0 C clo fp
    exact gv_name 6
  · rintro p hp _ x H4 e4 ⟨a, rfl, hq⟩ s0 H0 C clo fp
    exact EX.ev (ev_itemTR (k := kp p.1 p.2) huu (ev_fld (ev_name 0) (fw3.mono e4)) (ev_name 6) hq (.inl (e4 _ _ hk)) (hval p hp)) fun _ _ => rfl
  intro la zs H4 hla e4 hzs hall2
  rw [show ps.filter (fun _ => true) = ps from List.filter_eq_self.mpr fun _ _ => rfl] at hall2
  obtain rfl := allR_map (g := fun p : Nat × Nat => V.int (D p.1 p.2)) hall2
  refine aw_nil ⟨la, ps.map (fun p => D p.1 p.2), rfl, .inl (.inl (by rw [hzs, List.map_map]; rfl)), by rw [List.length_map]; exact List.length_pos_iff.mpr hne, fun c hc hmin => ?_⟩
  have hcp : 0 < c := by
    obtain ⟨p, hp, rfl⟩ := List.mem_map.mp hc
    exact hpp p hp
  have hcle : ∀ p ∈ ps, c ≤ D p.1 p.2 := fun p hp => hmin _ (List.mem_map_of_mem (f := fun p : Nat × Nat => D p.1 p.2) hp)
  -- so much of it as does no harm
  let Mid : L2.St → Hp → Prop := fun σ' H' => ∃ c' : Int, σ' = [some (.ref nn), some (.int (u : Int)), some (.bl b), some (.ref fa), some (.int (y : Int)), some (.int c'), none] ∧ Ex H3 H' ∧ 0 < c' ∧ c' ≤ c ∧ ∀ v, v < n → v ∉ es → Shr (sur n D v) (sur n (subL D ps c') v)
  refine bw_cut Mid ?_ ?_
  · have e34 := e4
    obtain ⟨p0, ps', hps0⟩ : ∃ p0 ps', ps = p0 :: ps' := by
      cases ps with
      | nil => exact absurd rfl hne
      | cons p0 ps' => exact ⟨p0, ps', rfl⟩
    obtain ⟨y0, ys', hys0⟩ : ∃ y0 ys', ys = y0 :: ys' := by
      have := hall.1
      rw [hps0] at this
      cases ys with
      | nil => cases this
      | cons y0 ys' => exact ⟨y0, ys', rfl⟩
    obtain ⟨q0, rfl, hq0⟩ : PrR p0 y0 H3 := hall.2 0 p0 y0 (by rw [hps0]; rfl) (by rw [hys0]; rfl)
    have hsrc : (if b then p0.2 else p0.1) = x := by
      rw [hps0] at htr
      cases htr with
      | cons hx hz hd t => cases b <;> rfl
    have hix : ([iV p0.1, iV p0.2] : List V)[if b then 1 else 0]? = some (iV x) := by
      rw [← hsrc]
      cases b <;> rfl
    have xt := hsrc
    have ringOk : x = y → ∀ c' : Int, ∀ v, v < n → v ∉ es → Shr (sur n D v) (sur n (subL D ps c') v) := fun hxy c' v _ _ => by
      rw [sur_trl htr, hxy]
      have : sur n D v - sg b * (if v = y then c' else 0) + sg b * (if v = y then c' else 0) = sur n D v := by omega
      rw [this]
      exact Shr.refl _
    refine sw_ifV (k := decide (V.int (x : Int) = V.int (u : Int)) && !decide (V.int (y : Int) = V.int (u : Int))) (tv_bool (wv_and (tv_eq (ev_ixTn (if b then 1 else 0) (ev_ixLn 0 (ev_name 3) ev_int (.inl (.inl (e4 _ _ hfa))) (by rw [hys0]; rfl)) (ev_intB T.b.b_int (ev_name 2)) (SqT.of (e4 _ _ hq0)) hix (by cases b <;> rfl)) (ev_name 1)) fun _ => wv_one_and (tv_ne (ev_name 4) (ev_name 1)))) ?_ ?_
    · intro hb H5 e5
      simp only [Bool.and_eq_true, Bool.not_eq_true', decide_eq_true_eq, decide_eq_false_iff_not] at hb
      have hxu : x = u := by
        have := V.int.inj hb.1
        omega
      have hyu : y ≠ u := fun z => hb.2 (by rw [z])
      have hxy : x ≠ y := fun z => hyu (z.symm.trans hxu)
      have hend := (hcase.resolve_right hxy).2.2
      have e35 := e4.trans e5
      have g5 := g3.mono e35
      refine bw_cons (sw_set 5 (EVgo (ev_min2 T.b.b_min (ev_name 5) (ev_abs T.b.b_abs (ev_meth hsu T.cNets.cl hr (ev_name 0) (e35 _ _ ho3) rfl (av_cons (ev_name 1) av_nil) (fun H6 e6 => ⟨nn, u, rfl, r, wd, bd, cd, ea, rd, n, W, cl, ky, D, es, g5.mono e6, d, hu, rfl⟩)))) fun H6 e6 => ?_))
      have g6 := g5.mono e6
      obtain ⟨dx6, ho6⟩ := g6.ob
      obtain ⟨_, fe6, _⟩ := nt_fl T ho6
      have hsg := sg_mul b (sur n D u)
      rw [hsg] at hpos
      have shrU : ∀ c' : Int, 0 < c' → c' ≤ min c (if sur n D u < 0 then - sur n D u else sur n D u) → (y ∉ es → c' ≤ (if sur n D y < 0 then - sur n D y else sur n D y)) → ∀ v, v < n → v ∉ es → Shr (sur n D v) (sur n (subL D ps c') v) := fun c' h1 h2 h3 v hv hve => by
        rw [sur_trl htr, hxu]
        by_cases c1 : v = u
        · have hy' : (if v = y then c' else 0) = 0 := if_neg fun z : v = y => hyu (z.symm.trans c1)
          rw [if_pos c1, hy', c1, sg_mul, sg_mul]
          unfold Shr
          by_cases c3 : b = true
          · rw [if_pos c3] at hpos
            rw [if_pos c3, if_pos c3]
            have : ¬ sur n D u < 0 := by omega
            rw [if_neg this] at h2
            omega
          · rw [if_neg c3] at hpos
            rw [if_neg c3, if_neg c3]
            have : sur n D u < 0 := by omega
            rw [if_pos this] at h2
            omega
        · rw [if_neg c1, sg_mul, sg_mul]
          by_cases c2 : v = y
          · rw [if_pos c2]
            have h4 := h3 (by rw [← c2]; exact hve)
            have h5 := hend.resolve_left (by rw [← c2]; exact hve)
            rw [sg_mul] at h5
            rw [c2]
            unfold Shr
            by_cases c3 : b = true
            · rw [if_pos c3] at h5
              rw [if_pos c3, if_pos c3]
              rw [if_pos h5] at h4
              omega
            · rw [if_neg c3] at h5
              rw [if_neg c3, if_neg c3]
              have : ¬ sur n D y < 0 := by omega
              rw [if_neg this] at h4
              omega
          · rw [if_neg c2]
            have this : (if b = true then (0 : Int) else -0) = 0 := by cases b <;> rfl
            rw [this]
            have e : sur n D v - 0 + 0 = sur n D v := by omega
            rw [e]
            exact Shr.refl _
      have hupos : 0 < (if sur n D u < 0 then - sur n D u else sur n D u) := by
        by_cases c3 : b = true
        · rw [if_pos c3] at hpos
          rw [if_neg (by omega)]
          exact hpos
        · rw [if_neg c3] at hpos
          rw [if_pos (by omega)]
          exact hpos
      refine bw_one (sw_ifV (tv_niS (x := iV y) (ev_name 4) (ev_fld (ev_name 0) fe6) (.inr (SqT.of g6.en)) rfl (flat_iV _)) ?_ ?_)
      · rw [in_iV]
        intro hb2 H7 e7
        have hye : y ∉ es := by simpa using hb2
        have hneg := hend.resolve_left hye
        rw [sg_mul] at hneg
        have hypos : 0 < (if sur n D y < 0 then - sur n D y else sur n D y) := by
          by_cases c3 : b = true
          · rw [if_pos c3] at hneg
            rw [if_pos hneg]
            omega
          · rw [if_neg c3] at hneg
            rw [if_neg (by omega)]
            omega
        have g7 := g6.mono e7
        refine bw_one (sw_set 5 (EVgo (ev_min2 T.b.b_min (ev_name 5) (ev_abs T.b.b_abs (ev_meth hsu T.cNets.cl hr (ev_name 0) (e7 _ _ ho6) rfl (av_cons (ev_name 4) av_nil) (fun H8 e8 => ⟨nn, y, rfl, r, wd, bd, cd, ea, rd, n, W, cl, ky, D, es, g7.mono e8, d, hy, rfl⟩)))) fun H8 e8 => ⟨_, rfl, ((e35.trans e6).trans e7).trans e8, by omega, by omega, shrU _ (by omega) (by omega) fun _ => Int.min_le_right _ _⟩))
      · rw [in_iV]
        intro hb2 H7 e7
        have hye : y ∈ es := by simpa using hb2
        exact bw_nil ⟨_, rfl, (e35.trans e6).trans e7, by omega, by omega, shrU _ (by omega) (by omega) fun h => absurd hye h⟩
    · intro hb H5 e5
      refine bw_nil ⟨c, rfl, e4.trans e5, hcp, Int.le_refl _, ringOk ?_ c⟩
      rcases hcase with ⟨h1, h2, _⟩ | h
      · exfalso
        rw [h1, decide_eq_true rfl, decide_eq_false (fun z => h2 (by have := V.int.inj z; omega))] at hb
        cases hb
      · exact h
  · rintro σ' H' ⟨c', rfl, e5, hc0, hcc, hshr⟩
    have hcle' : ∀ p ∈ ps, c' ≤ D p.1 p.2 := fun p hp => Int.le_trans hcc (hcle p hp)
    have hd' := dok_sub d hnd hcle' hpk
    have nfr : fa ≠ rd := fun z => by
      rw [z, hk] at hfa
      cases hfa
    refine bw_one (sw_forL PassesOwn.never (p := fa) (xs := ys) (ev_name 3) (.inl (.inl (e5 _ _ hfa))) (fun i σ' H' => ∃ z : Option V, σ' = [some (.ref nn), some (.int (u : Int)), some (.bl b), some (.ref fa), some (.int (y : Int)), some (.int c'), z] ∧ NtAt CR CN H' nn r wd bd cd ea rd n W cl ky (subL D (ps.take i) c') es ∧ Km [rd] H3 H') (fun H6 e6 => ⟨_, rfl, g3.mono (e5.trans e6), Km.of (e5.trans e6)⟩) (fun i σ' H' _ ⟨_, _, _, k⟩ => .inl (.inl (k _ _ hfa (by simpa using nfr)))) ?_ ?_)
    · rintro i xv σ' H' hi ⟨z, rfl, g6, k6⟩
      obtain ⟨p, hp⟩ : ∃ p, ps[i]? = some p := by
        have := (List.getElem?_eq_some_iff.mp hi).1
        rw [hall.1] at this
        exact ⟨_, List.getElem?_eq_getElem this⟩
      have ktr : Kt H3 H' := k6.kt fun m hm xs z => by
        rw [List.mem_singleton.mp hm, hk] at z
        cases z
      obtain ⟨tq, rfl, htq⟩ := (hall.2 i p xv hp hi).kt ktr
      have hpm := List.mem_of_getElem? hp
      obtain ⟨l1, l2⟩ := hpl p hpm
      obtain ⟨kv6, hk6, hv6⟩ := g6.rw_.val (hpk p hpm)
      obtain ⟨dx6, ho6⟩ := g6.ob
      refine gw_name 6 (bw_one (sw_daugM (k := kp p.1 p.2) huu (ev_fld (ev_name 0) (nt_fl T ho6).2.2) (ev_name 6) hk6 htq hv6 (ev_name 5) fun H7 e7 => ?_))
      obtain ⟨H8, hput, hrd8, k8⟩ := g6.rw_.put l1 l2 hle.2 (hpk p hpm) e7 (subL D (ps.take i) c' p.1 p.2 - c') (e7 _ _ htq)
      refine ⟨H8, hput, _, rfl, ?_, k6.trans k8⟩
      have e : subL D (ps.take (i + 1)) c' = fun a bb => if a = p.1 ∧ bb = p.2 then subL D (ps.take i) c' p.1 p.2 - c' else subL D (ps.take i) c' a bb := by
        rw [take_snoc hp, subL_snoc]
        funext a bb
        unfold sub1
        by_cases c1 : a = p.1 ∧ bb = p.2
        · rw [if_pos c1, if_pos c1, c1.1, c1.2]
        · rw [if_neg c1, if_neg c1]
      rw [e]
      exact g6.rows k8 hrd8
    · rintro σ' H' ⟨z, rfl, g6, k6⟩
      rw [hall.1, List.take_length] at g6
      refine q _ H' g6 hd' (fun i j => ?_) hshr (sD_sub hnd hpl hne hc0) ((Km.of e03).trans k6)
      rw [subL_val hnd]
      by_cases c1 : (i, j) ∈ ps
      · rw [if_pos c1]
        omega
      · rw [if_neg c1]
        exact Int.le_refl _
def spBalance (CR CN : Addr) : Sp := fun vs H Q _ => ∃ (nn : Addr) (b : Bool), vs = [.ref nn, .bl b] ∧ ∃ r wd bd cd ea rd n W cl ky D es, NtAt CR CN H nn r wd bd cd ea rd n W cl ky D es ∧ DOk n ky D ∧
  ∀ D' H', NtAt CR CN H' nn r wd bd cd ea rd n W cl ky D' es → DOk n ky D' → (∀ i j, D' i j ≤ D i j) → (∀ v, v < n → v ∉ es → Shr (sur n D v) (sur n D' v)) → (∀ v, v < n → v ∉ es → ¬ 0 < sg b * sur n D' v) → Km [rd] H H' → Q .non H'
theorem sg_wanted2 (b : Bool) : (2 : Int) * (if b then 1 else 0) - 1 = sg b := by cases b <;> rfl
theorem sg_small2 (b : Bool) : -(2 ^ 64) < sg b ∧ sg b < 2 ^ 64 := by cases b <;> decide
/-! Nets.balance: slots 0 self, 1 is_back, 2 wanted, 3 place -/
theorem sc_Nets_balance : FnScope ["self", "is_back", "wanted", "place"] ["self", "is_back"] (defScope s_Nets_balance) := ⟨rfl, rfl, rfl, by decide +kernel, rfl, by decide +kernel, by decide +kernel⟩
theorem ok_Nets_balance (T : Tops K mg CR CW CN CH) (hsu : HasM P w K mg base CN 1 "surplus" ["self", "place"] (spSur CR CN)) (hse : HasM P w K mg base CN 3 "settle" ["self", "place", "is_back"] (spSettle CR CN)) : HasM P w K mg base CN 4 "balance" ["self", "is_back"] (spBalance CR CN) := by
  refine hasM_of (k := 3) T.Nets_balance sc_Nets_balance (fun _ _ _ _ _ _ us hl => match us, hl with | [_, _], _ => rfl) (fun vs H Q E h => by
    obtain ⟨nn, b, rfl, _⟩ := h
    rfl) ?_
  intro f cdv A outer s H0 H vs Q E E0 hr h
  obtain ⟨nn, b, rfl, r, wd, bd, cd, ea, rd, n, W, cl, ky, D, es, g, d, q⟩ := h
  have nd := (sc_Nets_balance).nd
  obtain ⟨dx, ho⟩ := g.ob
  have hle := g.rm.le
  refine bw_cons (sw_set 2 (EVgo (ev_is (w := .int (sg b)) (ev_sub (ev_mul ev_int (ev_intB T.b.b_int (ev_name 1)) (.inl ⟨by decide, by decide⟩)) ev_int) (by rw [sg_wanted2])) fun H1 e1 => ?_))
  obtain ⟨⟨dxr, obr⟩, _⟩ := id (g.mono e1).rm
  refine bw_one (sw_forR1 PassesOwn.never T.b.b_range (n := n) (ev_fld (ev_fld (ev_name 0) (nt_fl T (e1 _ _ ho)).1) (rm_fl T obr).1) (by omega) (fun i σ' H' => ∃ (z : Option V) (D' : Mx), σ' = [some (.ref nn), some (.bl b), some (.int (sg b)), z] ∧ NtAt CR CN H' nn r wd bd cd ea rd n W cl ky D' es ∧ DOk n ky D' ∧ (∀ i j, D' i j ≤ D i j) ∧ (∀ v, v < n → v ∉ es → Shr (sur n D v) (sur n D' v)) ∧ (∀ v, v < i → v ∉ es → ¬ 0 < sg b * sur n D' v) ∧ Km [rd] H H') (fun H2 e2 => ⟨_, D, rfl, g.mono (e1.trans e2), d, fun _ _ => Int.le_refl _, fun v _ _ => Shr.refl _, fun v hv => by omega, Km.of (e1.trans e2)⟩) ?_ ?_)
  · rintro i σ' H' hi ⟨z, D', rfl, g', d', hle', hshr', hz', k'⟩
    refine gw_name 3 (bw_one (sw_whileM PassesOwn.never (fun m σ' H' => ∃ (D' : Mx), σ' = [some (.ref nn), some (.bl b), some (.int (sg b)), some (.int (i : Int))] ∧ m = (sD n D').toNat ∧ NtAt CR CN H' nn r wd bd cd ea rd n W cl ky D' es ∧ DOk n ky D' ∧ (∀ i j, D' i j ≤ D i j) ∧ (∀ v, v < n → v ∉ es → Shr (sur n D v) (sur n D' v)) ∧ (∀ v, v < i → v ∉ es → ¬ 0 < sg b * sur n D' v) ∧ Km [rd] H H') _ ⟨D', rfl, rfl, g', d', hle', hshr', hz', k'⟩ ?_))
    rintro m σ' H' ⟨D', rfl, rfl, g', d', hle', hshr', hz', k'⟩
    obtain ⟨dx', ho'⟩ := g'.ob
    obtain ⟨_, fe', _⟩ := nt_fl T ho'
    refine TVgo (b := !decide (i ∈ es) && decide (0 < sur n D' i * sg b)) (tv_bool (wv_and (tv_is (tv_niS (x := iV i) (ev_name 3) (ev_fld (ev_name 0) fe') (.inr (SqT.of g'.en)) rfl (flat_iV _)) (by rw [in_iV])) fun _ => wv_one_and (tv_gt (ev_mul (ev_meth hsu T.cNets.cl hr (ev_name 0) ho' rfl (av_cons (ev_name 3) av_nil) (fun H5 e5 => ⟨nn, i, rfl, r, wd, bd, cd, ea, rd, n, W, cl, ky, D', es, g'.mono e5, d', hi, rfl⟩)) (ev_name 2) (.inr (sg_small2 b))) ev_int))) fun H5 e5 => ?_
    refine ite2 (fun hd => ?_) (fun hd => ?_)
    · simp only [Bool.and_eq_true, Bool.not_eq_true', decide_eq_true_eq, decide_eq_false_iff_not] at hd
      have hpos : 0 < sg b * sur n D' i := by
        rw [Int.mul_comm]
        exact hd.2
      refine bw_one (sw_expr (ew_meth hse T.cNets.cl hr (EVgo (ev_name 0) fun H6 e6 => ⟨nn, dx', _, rfl, e6 _ _ (e5 _ _ ho'), rfl, AVgo (av_cons (ev_name 3) (av_cons (ev_name 1) av_nil)) fun H7 e7 => ⟨nn, i, b, rfl, r, wd, bd, cd, ea, rd, n, W, cl, ky, D', es, g'.mono (e5.trans (e6.trans e7)), d', hi, hd.1, hpos, fun D2 H8 g8 d8 hle8 hshr8 hlt8 k8 => ⟨_, ?_, D2, rfl, rfl, g8, d8, fun a c => Int.le_trans (hle8 a c) (hle' a c), fun v hv hve => (hshr' v hv hve).trans (hshr8 v hv hve), fun v hv hve => ?_, (k'.trans (Km.of (e5.trans (e6.trans e7)))).trans k8⟩⟩⟩)))
      · have h1 := sD_nn d8
        omega
      · have h1 := hz' v hv hve
        have h2 := hshr8 v (by omega) hve
        rw [sg_mul] at h1 ⊢
        unfold Shr at h2
        by_cases c : b = true
        · rw [if_pos c] at h1 ⊢
          omega
        · rw [if_neg c] at h1 ⊢
          omega
    · refine ⟨_, D', rfl, g'.mono e5, d', hle', hshr', fun v hv hve hp => ?_, k'.trans (Km.of e5)⟩
      by_cases c : v = i
      · rw [c] at hve hp
        rw [Int.mul_comm] at hp
        rw [decide_eq_false hve, decide_eq_true hp] at hd
        exact hd rfl
      · exact hz' v (by omega) hve hp
  · rintro σ' H' ⟨z, D', rfl, g', d', hle', hshr', hz', k'⟩
    exact q D' H' g' d' hle' hshr' hz' k'
end
end Cut


namespace Cut
open PySem PySem.Spec PyProof.Rows L2 Evl
section
variable {X : Cx} {scope : Scope} {σ : L2.St} {H : Hp} {elt tg c : Expr} {Q : VK} {vs : List Nat}
/-- a comprehension over range(n), with a test -/
theorem lc_rIf {a : Expr} {p pos' : Pos} {n : Nat} {pf : Nat → Bool} {g : Nat → V} (hm : X.mg "range" = none) (h : EV X a σ H (.int (n : Int))) (hn : n ≤ 40000) (sg : Nat → L2.St)
    (hg : ∀ i, i < n → ∀ s0 H0 C cl fp, GV (Bk X scope s0 H0 C cl fp) tg (.int (i : Int)) (wipe σ vs) H (sg i)) (hw : ∀ a, wipe (sg a) vs = wipe σ vs) (ht : ∀ i, i < n → ∀ s0 H0 C cl fp, TV (Bk X scope s0 H0 C cl fp) c (sg i) H (pf i)) (he : ∀ i, i < n → pf i = true → ∀ s0 H0 C cl fp, EV (Bk X scope s0 H0 C cl fp) elt (sg i) H (g i))
    (q : ∀ p H2, H p = none → Ex H H2 → H2 p = some (.lst (((List.range n).filter pf).map g)) → Q (.ref p) H2) (hgl : Gl X "range" := by rfl) (hst : starEach [a] X.env = [(false, eval a X.env)] := by rfl) :
    tLc (IW X tg (.Call (.Name "range" p) [a] [] pos')) (GB X scope tg) (TB X scope c) (EB X scope elt) vs σ H Q :=
  lcR hm h (by omega) (fun D i H' => CPv H (List.range n) pf g D i H') (fun D H1 e1 hD => ⟨Evl.fresh_back e1 hD, Ex.mut e1 (Evl.fresh_back e1 hD), upd_same⟩) (fun D i H' hi p => cp_turnIf (toV := fun i : Nat => V.int (i : Int)) p (range_get hi) (by rw [List.length_range]; exact hn) (hg i hi) (hw i) (ht i hi) (fun hp => he i hi hp)) (fun D H' p => cp_done (H0 := H) p (by rw [List.length_range]; exact Nat.le_refl _) q) hgl hst
end
theorem sum_onS {n : Nat} {f : Nat → Int} : ∀ {l : List Nat}, l.Nodup → (∀ x ∈ l, x < n) → (l.map f).sum = onS n (inP l) f
  | [], _, _ => by
    have : onS n (inP []) f = sm n fun _ => 0 := sm_congr fun i _ => if_neg (by simp [inP])
    rw [this, sm_zero]
    rfl
  | a :: l, hn, hl => by
    rw [List.nodup_cons] at hn
    rw [List.map_cons, List.sum_cons, sum_onS hn.2 fun x hx => hl x (List.mem_cons_of_mem _ hx)]
    have e : ∀ i, (if inP (a :: l) i = true then f i else 0) = (if i = a then f i else 0) + if inP l i = true then f i else 0 := fun i => by
      by_cases c1 : i = a
      · rw [if_pos (inP_iff.mpr (by rw [c1]; exact List.mem_cons_self)), if_pos c1, if_neg fun z => hn.1 (by rw [← c1]; exact inP_iff.mp z)]
        omega
      · rw [if_neg c1]
        by_cases c2 : inP l i = true
        · rw [if_pos (inP_iff.mpr (List.mem_cons_of_mem _ (inP_iff.mp c2))), if_pos c2]
          omega
        · rw [if_neg fun z => c2 (inP_iff.mpr ((List.mem_cons.mp (inP_iff.mp z)).resolve_left c1)), if_neg c2]
          rfl
    unfold onS
    rw [sm_congr fun i _ => e i, sm_add, sm_one' (hl a List.mem_cons_self)]
section
variable {P : Program} {w : World} {K : PySem.W.Frag} {mg : Str → Option Value} {base : Heap} {CR CW CN CH : Addr}
def spLooseRows (K : PySem.W.Frag) (CW : Addr) : Sp := spV fun vs H v => ∃ wb y, vs = [.ref wb, y] ∧ ∃ (n : Nat) (W : Mx) (rows : List Rw) (F : Mx), WbAt K CW H wb n W ∧ FlAt K H y rows ∧ FlRows n F rows ∧ Anti F ∧ v = .bl true
/-! are_loose_rows: slots 0 web, 1 flow, 2 before, 3 seen, 4 row, 5 pair -/
theorem sc_are_loose_rows : FnScope ["web", "flow", "before", "seen", "row", "pair"] ["web", "flow"] (defScope s_are_loose_rows) := ⟨rfl, rfl, rfl, by decide +kernel, rfl, by decide +kernel, by decide +kernel⟩
theorem ok_are_loose_rows (T : Tops K mg CR CW CN CH) (hrow : Has P w K mg base 1 "is_row" ["thing"] (spRow K)) (hpl : Has P w K mg base 2 "are_places" ["many", "i", "j"] spPlaces) (ham : Has P w K mg base 2 "is_amount" ["thing"] (spIsAm K)) : Has P w K mg base 3 "are_loose_rows" ["web", "flow"] (spLooseRows K CW) := by
  refine has_of (k := 2) T.are_loose_rows sc_are_loose_rows (fun _ _ _ _ _ _ us hl => match us, hl with | [_, _], _ => rfl) (fun vs H Q E h => by
    obtain ⟨_, ⟨wb, y, rfl, _⟩, _⟩ := h
    rfl) ?_
  intro f cdv A outer s H0 H vs Q E E0 hr h
  obtain ⟨v, ⟨wb, y, rfl, n, W, rows, F, hW, ⟨fp, ys, rfl, hys, hrows⟩, hF, hA, rfl⟩, q⟩ := h
  have nd := (sc_are_loose_rows).nd
  have hu := hu_of hr
  have hu0 : (CxD P w K mg base ["web", "flow", "before", "seen", "row", "pair"] "are_loose_rows" s_are_loose_rows f cdv A outer s H0 E0).A.units < cLine := Nat.lt_of_le_of_lt (Nat.le_add_right _ _) hr.units
  obtain ⟨⟨dw, ww, tp, kvw, gw, zw, trows, o1, _⟩, _, hle⟩ := id hW
  obtain ⟨fm, _, _⟩ := wb_fl T o1
  refine bw_cons (sw_ifF (tv_not (tv_val (ev_call hrow hr (av_cons (ev_name 1) av_nil) (fun H1 e1 => ⟨_, rfl, .inl ⟨fp, _, rfl, .inr (SqT.of (e1 _ _ hys)), rfl⟩⟩)))) fun H1 e1 => bw_nil ?_)
  refine bw_cons (sw_set 2 (EVgo ev_non fun H2 e2 => ?_))
  refine bw_cons (sw_set 3 (ew_of pe_dnewT fun kd hkd => ?_))
  have e12 := e1.trans e2
  have fkd : H kd = none := Evl.fresh_back e12 hkd
  have e02 : Ex H (upd H2 kd (.dT [])) := e12.trans (Ex.new hkd)
  refine bw_cons (sw_forT PassesOwn.never (p := fp) (xs := ys) (ev_name 1) (SqT.of (e02 _ _ hys)) (fun k σ' H' => ∃ (bv : V) (z zp : Option V) (kvs : List (List Key × V)) (g : Nat → Nat → Option V), σ' = [some (.ref wb), some (.ref fp), some bv, some (.ref kd), z, zp] ∧ Ex H H' ∧ (bv = .non ∨ ∃ (la : Addr) (a b : Nat), bv = .ref la ∧ H' la = some (.tup [iV a, iV b]) ∧ ∀ t, rows[k]? = some t → lexP (a, b) (t.1, t.2.1)) ∧ H' kd = some (.dT kvs) ∧ Pd n kvs g ∧ (∀ i j, g i j ≠ none → ∃ m, (i, j, m) ∈ rows)) ?_ ?_ ?_ ?_)
  · intro H3 e3
    exact ⟨_, _, _, [], fun _ _ => none, rfl, e02.trans e3, .inl rfl, e3 _ _ upd_same, Pd.nil n, fun i j h => absurd rfl h⟩
  · rintro i σ' H' _ ⟨_, _, _, _, _, _, e, _⟩
    exact SqT.of (e _ _ hys)
  · rintro k x σ' H' hk ⟨bv, z, zp, kvs, g, rfl, e3, hbv, hkd3, hpd, hg⟩
    obtain ⟨t, ht⟩ : ∃ t, rows[k]? = some t := by
      have := (List.getElem?_eq_some_iff.mp hk).1
      rw [hrows.1] at this
      exact ⟨_, List.getElem?_eq_getElem this⟩
    have hrR := (hrows.2 k _ x ht hk).kt (Kt.of e3)
    obtain ⟨i, j, m⟩ := t
    obtain ⟨p, pa, rfl, hp1, hp2⟩ := id hrR
    replace hp2 : Tp K H' pa [.int (loA m : Nat), .int (loB m : Nat)] := hp2
    obtain ⟨h1, h2, h3, h4, h5⟩ := hF.ne hA (List.mem_of_getElem? ht)
    replace h1 : i < n := h1
    replace h2 : j < n := h2
    replace h3 : i ≠ j := h3
    replace h4 : 0 < m := h4
    have ix0 : ∀ {H1 : Hp} {pos p1 p2 : Pos} {jj : Nat} {bv : V} {zp : Option V}, Ex H' H1 → EV (CxD P w K mg base ["web", "flow", "before", "seen", "row", "pair"] "are_loose_rows" s_are_loose_rows f cdv A outer s H0 E0) (.Subscript (.Name "row" p1) (.Constant (.int 0) jj p2) pos) [some (.ref wb), some (.ref fp), some bv, some (.ref kd), some (.ref p), zp] H1 (iV i) := fun e => ev_ixTn 0 (ev_name 4) ev_int (SqT.of (e _ _ hp1)) rfl
    have ix1 : ∀ {H1 : Hp} {pos p1 p2 : Pos} {jj : Nat} {bv : V} {zp : Option V}, Ex H' H1 → EV (CxD P w K mg base ["web", "flow", "before", "seen", "row", "pair"] "are_loose_rows" s_are_loose_rows f cdv A outer s H0 E0) (.Subscript (.Name "row" p1) (.Constant (.int 1) jj p2) pos) [some (.ref wb), some (.ref fp), some bv, some (.ref kd), some (.ref p), zp] H1 (iV j) := fun e => ev_ixTn 1 (ev_name 4) ev_int (SqT.of (e _ _ hp1)) rfl
    have ix2 : ∀ {H1 : Hp} {pos p1 p2 : Pos} {jj : Nat} {bv : V} {zp : Option V}, Ex H' H1 → EV (CxD P w K mg base ["web", "flow", "before", "seen", "row", "pair"] "are_loose_rows" s_are_loose_rows f cdv A outer s H0 E0) (.Subscript (.Name "row" p1) (.Constant (.int 2) jj p2) pos) [some (.ref wb), some (.ref fp), some bv, some (.ref kd), some (.ref p), zp] H1 (.ref pa) := fun e => ev_ixTn 2 (ev_name 4) ev_int (SqT.of (e _ _ hp1)) rfl
    have gji : g j i = none := by
      cases e : g j i with
      | none => rfl
      | some v =>
        obtain ⟨m', hm'⟩ := hg j i (by rw [e]; exact fun z => by cases z)
        obtain ⟨_, _, g3, g4⟩ := (hF.iff j i m').mp hm'
        have := hA i j
        replace h5 : F i j = (m : Int) := h5
        omega
    refine gw_name 4 (bw_cons (sw_ifF (tv_is (tv_bool (wv_or (k := false) (tv_is (tv_not (tv_val (ev_call hrow hr (av_cons (ev_name 4) av_nil) (fun H1 e1 => ⟨_, rfl, .inl ⟨p, _, rfl, .inr (SqT.of (e1 _ _ hp1)), rfl⟩⟩)))) rfl) fun _ => wv_or (k := false) (tv_is (tv_ne (ev_len T.b.b_len (ev_name 4) (.inr (SqT.of hp1))) ev_int) rfl) fun _ => wv_or (k := false) (tv_is (tv_not (tv_val (ev_call hpl hr (av_cons (ev_fld (ev_name 0) (fm.mono e3)) (av_cons (ix0 (Ex.refl _)) (av_cons (ix1 (Ex.refl _)) av_nil))) (fun H1 e1 => ⟨n, i, j, rfl, h1, h2, h3, rfl⟩)))) rfl) fun _ => wv_one_or (tv_is (tv_not (tv_val (ev_call ham hr (av_cons (ix2 (Ex.refl _)) av_nil) (fun H1 e1 => ⟨_, rfl, m, ⟨pa, rfl, .inr (hp2.mono e1).sq⟩, rfl⟩)))) rfl))) rfl) fun H4 e4 => bw_nil ?_))
    refine bw_cons (sw_set 5 (EUgo (evu_tup (av_cons (ix0 e4) (av_cons (ix1 e4) av_nil))) fun lb H5 nlb e5 hlb => ?_))
    have e45 := e4.trans e5
    have ha5 := (hp2.mono e45).sq
    refine bw_cons (sw_ifF (tv_is (tv_bool (wv_or (k := false) (tv_is (tv_eq (ev_ixTn 0 (ix2 e45) ev_int ha5 rfl) ev_int) (decide_eq_false fun z => by
      have := V.int.inj z
      have := loA_posi h4
      omega)) fun _ => wv_one_or (tv_is (tv_gt (ev_mod (ev_globI T.b.BELOW) (ev_ixTn 1 (ix2 e45) ev_int ha5 rfl) (by have := loB_pos m; omega)) ev_int) (by rw [loB_mod]; rfl)))) rfl) fun H6 e6 => bw_nil ?_)
    have e46 := e45.trans e6
    refine bw_cons (sw_ifF (tv_is (tv_bool (wv_or (k := false) (l := false) (by
      rcases hbv with rfl | ⟨la, a, b, rfl, hla, hlex⟩
      · exact tv_is (tv_bool (wv_and (k := false) (l := false) (tv_is (tv_notN (ev_name 2)) rfl) fun z => by cases z)) rfl
      · have hl := hlex _ ht
        replace hl : a < i ∨ (a = i ∧ b < j) := hl
        exact tv_is (tv_bool (wv_and (k := true) (l := false) (tv_is (tv_notN (ev_name 2)) rfl) fun _ => wv_one_and (tv_is (tv_leT2R hu0 (ev_name 5) (e6 _ _ hlb) (ev_name 2) (e46 _ _ hla)) (decide_eq_false (by omega))))) rfl) fun _ => wv_one_or (tv_is (tv_inT (k := kp j i) hu (evu_tup (av_cons (ix1 e46) (av_cons (ix0 e46) av_nil))) (ev_name 3) (.inl (e46 _ _ hkd3))) (by rw [hpd.val, gji]; rfl)))) rfl) fun H7 e7 => bw_nil ?_)
    refine bw_cons (sw_dput hu (EVgo ev_bl fun H8 e8 => EVgo (ev_name 3) fun H9 e9 => EVgo (ev_name 5) fun Ha ea => ⟨kd, _, rfl, DPut.t (k := kp i j) (((e46.trans e7).trans ((e8.trans e9).trans ea)) _ _ hkd3) (((e6.trans e7).trans ((e8.trans e9).trans ea)) _ _ hlb) (hpd.small (Nat.le_trans hle.2 (by decide))), ?_⟩))
    have e6a := (e46.trans e7).trans ((e8.trans e9).trans ea)
    have nlk : lb ≠ kd := fun z => by
      rw [z, e4 _ _ hkd3] at nlb
      cases nlb
    have k1 : Km [kd] H (upd Ha kd (.dT (putK kvs (kp i j) (.bl true)))) := (Km.of (e3.trans e6a)).upd (by simp)
    have x1 : Ex H (upd Ha kd (.dT (putK kvs (kp i j) (.bl true)))) := Km.nil ((Km.of (M := []) (Ex.refl H)).drop k1 (by simp [fkd]))
    have l1 : (upd Ha kd (.dT (putK kvs (kp i j) (.bl true)))) lb = some (.tup [iV i, iV j]) := by
      rw [upd_ne nlk]
      exact ((e6.trans e7).trans ((e8.trans e9).trans ea)) _ _ hlb
    have s1 : (upd Ha kd (.dT (putK kvs (kp i j) (.bl true)))) kd = some (.dT (putK kvs (kp i j) (.bl true))) := upd_same
    generalize upd Ha kd (.dT (putK kvs (kp i j) (.bl true))) = Hb at x1 l1 s1
    refine bw_one (sw_set 2 (EVgo (ev_name 5) fun Hc ec => ⟨.ref lb, some (.ref p), some (.ref lb), _, _, rfl, x1.trans ec, .inr ⟨lb, i, j, rfl, ec _ _ l1, fun t ht2 => ?_⟩, ec _ _ s1, hpd.put h1 h2 (.bl true), fun a' b' hab => ?_⟩))
    · have hup := List.pairwise_iff_getElem.mp hF.up k (k + 1) (List.getElem?_eq_some_iff.mp ht).1 (List.getElem?_eq_some_iff.mp ht2).1 (by omega)
      rw [(List.getElem?_eq_some_iff.mp ht).2, (List.getElem?_eq_some_iff.mp ht2).2] at hup
      exact hup
    · by_cases c : a' = i ∧ b' = j
      · rw [c.1, c.2]
        exact ⟨m, List.mem_of_getElem? ht⟩
      · rw [if_neg c] at hab
        exact hg a' b' hab
  · rintro σ' H' ⟨bv, z, zp, kvs, g, rfl, e3, _⟩
    exact bw_one (sw_ret (EVgo ev_bl fun H4 e4 => q _ (e3.trans e4)))
end
end Cut


namespace Cut
open PySem PySem.Spec PyProof.Rows L2 Evl
section
variable {P : Program} {w : World} {K : PySem.W.Frag} {mg : Str → Option Value} {base : Heap} {CR CW CN CH : Addr}
/-- a new Nets, by its call -/
theorem ew_nets {X : Cx} {σ : L2.St} {H : Hp} {pos p : Pos} {es : List Expr} {e : Expr} {k j : Nat} {Q : VK} {wb pf pt : Addr} {y : V} {n : Nat} {W : Mx} {fs ts : List Nat} {rows : List Rw} {F : Mx} (hi : HasC X.prog X.w X.K X.mg X.base CN k "Nets" ["self", "web", "froms", "tos", "flow"] (spNtInit X.K CR CW CN)) (hr : Room j X.A) (he : AV X (e :: es) σ H [.ref wb, .ref pf, .ref pt, y]) (h0 : WFT X.K CW H wb pf pt n W fs ts) (hfl : FlAt X.K H y rows) (hF : FlRows n F rows) (hA : Anti F)
    (q : ∀ nn r wd bd cd ea rd cl H', Ex H H' → NtAt CR CN H' nn r wd bd cd ea rd n W cl (kyF n F) (DF n F) (fs ++ ts) → ClOk n cl → CovR n W zeM cl → H bd = none → H rd = none → Q (.ref nn) H') (hk : k + 1 ≤ j := by decide) (hg : Gl X "Nets" := by rfl) (hst : starEach (e :: es) X.env = (false, eval e X.env) :: starEach es X.env := by rfl) (hpl : (backTo pos (starEach es X.env)).any (·.1) = false := by rfl) : EW X (.Call (.Name "Nets" p) (e :: es) [] pos) σ H Q := by
  refine ew_make hi hr (AVgo he fun H1 e1 y' dx hy hdx hne => ?_) hk hg (by decide) hst hpl
  have e2 : Ex H1 (upd (upd H1 dx (.own y')) y' (.ins CN dx [])) := (Ex.new hdx).trans (Ex.new (by rw [upd_ne (Ne.symm hne)]; exact hy))
  have fr : ∀ {p : Addr}, (upd (upd H1 dx (.own y')) y' (.ins CN dx [])) p = none → H p = none := fun h => Evl.fresh_back (e1.trans e2) h
  refine ⟨y', wb, pf, pt, y, rfl, dx, n, W, fs, ts, rows, F, upd_same, h0.mono (e1.trans e2), hfl.kt (Kt.of (e1.trans e2)), hF, hA, fun H2 r wd bd cd ea rd cl g ok cov k2 fbd frd => ⟨rfl, ?_⟩⟩
  exact q y' r wd bd cd ea rd cl H2 (Km.nil ((Km.of (M := []) (e1.trans e2)).drop k2 (by simp [Evl.fresh_back e1 hy]))) g ok cov (fr fbd) (fr frd)
/-- what led_flow asks of a flow -/
structure Loose (n : Nat) (fs ts : List Nat) (F : Mx) : Prop where
  anti : Anti F
  bal : ∀ v, v < n → v ∉ fs → v ∉ ts → ot n F v = 0
  wor : 0 ≤ wor n (inP fs) F
def spIsLoose (K : PySem.W.Frag) (CW : Addr) : Sp := spV fun vs H v => ∃ wb pf pt y, vs = [.ref wb, .ref pf, .ref pt, y] ∧ ∃ (n : Nat) (W : Mx) (fs ts : List Nat) (rows : List Rw) (F : Mx), WFT K CW H wb pf pt n W fs ts ∧ FlAt K H y rows ∧ FlRows n F rows ∧ Loose n fs ts F ∧ v = .bl true
/-! is_loose: slots 0 web, 1 froms, 2 tos, 3 flow, 4 nets, 5 worth, 6 place, 7 inner -/
theorem sc_is_loose : FnScope ["web", "froms", "tos", "flow", "nets", "worth", "place", "inner"] ["web", "froms", "tos", "flow"] (defScope s_is_loose) := ⟨rfl, rfl, rfl, by decide +kernel, rfl, by decide +kernel, by decide +kernel⟩
theorem ok_is_loose (T : Tops K mg CR CW CN CH) (hlr : Has P w K mg base 3 "are_loose_rows" ["web", "flow"] (spLooseRows K CW)) (hni : HasC P w K mg base CN 4 "Nets" ["self", "web", "froms", "tos", "flow"] (spNtInit K CR CW CN)) (hsu : HasM P w K mg base CN 1 "surplus" ["self", "place"] (spSur CR CN)) : Has P w K mg base 6 "is_loose" ["web", "froms", "tos", "flow"] (spIsLoose K CW) := by
  refine has_of (k := 5) T.is_loose sc_is_loose (fun _ _ _ _ _ _ us hl => match us, hl with | [_, _, _, _], _ => rfl) (fun vs H Q E h => by
    obtain ⟨_, ⟨wb, pf, pt, y, rfl, _⟩, _⟩ := h
    rfl) ?_
  intro f cdv A outer s H0 H vs Q E E0 hr h
  obtain ⟨v, ⟨wb, pf, pt, y, rfl, n, W, fs, ts, rows, F, h0, hfl, hF, hL, rfl⟩, q⟩ := h
  have nd := (sc_is_loose).nd
  have hu64 : (CxD P w K mg base ["web", "froms", "tos", "flow", "nets", "worth", "place", "inner"] "is_loose" s_is_loose f cdv A outer s H0 E0).A.units + 64 < cLine := hr.units
  have hA := hL.anti
  have en := h0.ends
  obtain ⟨⟨dw, ww, tp, kvw, gw, zw, trows, o1, _⟩, _, hle⟩ := id h0.web
  obtain ⟨fm, _, _⟩ := wb_fl T o1
  refine bw_cons (sw_ifF (tv_is (tv_not (tv_val (ev_call hlr hr (av_cons (ev_name 0) (av_cons (ev_name 3) av_nil)) (fun H1 e1 => ⟨_, _, rfl, n, W, rows, F, h0.web.mono e1, hfl.kt (Kt.of e1), hF, hA, rfl⟩)))) rfl) fun H1 e1 => bw_nil ?_)
  refine bw_cons (sw_set 4 (ew_nets hni hr (av_cons (ev_name 0) (av_cons (ev_name 1) (av_cons (ev_name 2) (av_cons (ev_name 3) av_nil)))) (h0.mono e1) (hfl.kt (Kt.of e1)) hF hA fun nn r wd bd cd ea rd cl H2 e2 g ok cov _ _ => ?_))
  have e02 := e1.trans e2
  have d := dok_F (n := n) hA
  obtain ⟨dx, ho⟩ := g.ob
  obtain ⟨_, fe, _⟩ := nt_fl T ho
  refine bw_cons (sw_set 5 (EVgo ev_int fun H3 e3 => ?_))
  have e03 := e02.trans e3
  refine bw_cons (sw_forT PassesOwn.never (p := pf) (xs := fs.map iV) (ev_name 1) (h0.f.mono e03).sq (fun i σ' H' => ∃ z : Option V, σ' = [some (.ref wb), some (.ref pf), some (.ref pt), some y, some (.ref nn), some (.int ((fs.take i).map (ot n F)).sum), z, none] ∧ Ex H2 H') (fun H4 e4 => ⟨_, rfl, e3.trans e4⟩) (fun i σ' H' _ ⟨_, _, e⟩ => (h0.f.mono (e02.trans e)).sq) ?_ ?_)
  · rintro i x σ' H' hi ⟨z, rfl, e4⟩
    rw [List.getElem?_map] at hi
    obtain ⟨u, hu, rfl⟩ : ∃ v, fs[i]? = some v ∧ iV v = x := by
      cases e : fs[i]? with
      | none => rw [e] at hi; cases hi
      | some v =>
        rw [e] at hi
        exact ⟨v, rfl, Option.some.inj hi⟩
    have hun := en.flt u (List.mem_of_getElem? hu)
    refine gw_name 6 (bw_one (sw_augM 5 rfl (EVgo (ev_meth hsu T.cNets.cl hr (ev_name 4) (e4 _ _ ho) rfl (av_cons (ev_name 6) av_nil) (fun H5 e5 => ⟨nn, u, rfl, r, wd, bd, cd, ea, rd, n, W, cl, kyF n F, DF n F, fs ++ ts, g.mono (e4.trans e5), d, hun, rfl⟩)) fun H5 e5 => ⟨rfl, some (iV u), ?_, e4.trans e5⟩)))
    rw [take_snoc hu, List.map_append, List.sum_append, List.map_cons, List.map_nil, List.sum_cons, List.sum_nil, sur_F hA hun]
    have : ((fs.take i).map (ot n F)).sum - - ot n F u = ((fs.take i).map (ot n F)).sum + (ot n F u + 0) := by omega
    show [some (.ref wb), some (.ref pf), some (.ref pt), some y, some (.ref nn), some (V.int (((fs.take i).map (ot n F)).sum - - ot n F u)), some (iV u), none] = _
    rw [this]
  · rintro σ' H' ⟨z, rfl, e4⟩
    rw [List.length_map, List.take_length, sum_onS (pw_nd en.fnd) en.flt]
    have hw : onS n (inP fs) (ot n F) = wor n (inP fs) F := rfl
    rw [hw]
    have e04 := e02.trans e4
    refine bw_cons (sw_setLcIf 7 (own := [("place", 6)]) (lc_rIf (n := n) (pf := fun i => !decide (i ∈ fs ++ ts)) (g := iV) T.b.b_range (ev_fld (ev_name 0) (fm.mono e04)) (by omega) (fun i => [some (.ref wb), some (.ref pf), some (.ref pt), some y, some (.ref nn), some (.int (wor n (inP fs) F)), some (iV i), none]) (fun i hi s0 H0 C clo fp => gv_name 6) (fun i => rfl) (fun i hi s0 H0 C clo fp => tv_is (tv_niS (x := iV i) (ev_name 6) (ev_fld (ev_name 4) (fe.mono e4)) (.inr (SqT.of (e4 _ _ g.en))) rfl (flat_iV _)) (by rw [in_iV])) (fun i hi _ s0 H0 C clo fp => ev_name 6) fun ia H5 hia e5 hia5 => ?_))
    have e25 := e4.trans e5
    generalize hin : (List.range n).filter (fun i => !decide (i ∈ fs ++ ts)) = inn at hia5
    have hmem : ∀ v, v ∈ inn → v < n ∧ v ∉ fs ∧ v ∉ ts := fun v hv => by
      rw [← hin, List.mem_filter, List.mem_range] at hv
      refine ⟨hv.1, fun z => ?_, fun z => ?_⟩
      · have := hv.2
        rw [decide_eq_true (List.mem_append_left _ z)] at this
        cases this
      · have := hv.2
        rw [decide_eq_true (List.mem_append_right _ z)] at this
        cases this
    have hsz : inn.length ≤ n := by
      rw [← hin]
      refine Nat.le_trans (List.length_filter_le _ _) ?_
      rw [List.length_range]
      exact Nat.le_refl _
    have hzero : ∀ v, v ∈ inn → sur n (DF n F) v = 0 := fun v hv => by
      obtain ⟨h1, h2, h3⟩ := hmem v hv
      rw [sur_F hA h1, hL.bal v h1 h2 h3]
      rfl
    have hfil : inn.filter (fun v => !decide (V.int (sur n (DF n F) v) = V.int 0)) = [] := List.filter_eq_nil_iff.mpr fun v hv => by
      rw [hzero v hv]
      simp
    refine bw_one (sw_ret (EVgo (ev_is (w := .bl true) (ev_and (k := true) (l := true) (ev_is (ev_ge (ev_name 5) ev_int) (by rw [decide_eq_true hL.wor])) fun _ => ev_one (ev_is (ev_eqNilL hu64 (ds := dI ((inn.filter fun v => !decide (V.int (sur n (DF n F) v) = V.int 0)).map fun x : Nat => (x : Int))) (evl_compIf (l := inn) (toV := iV) (g := iV) (pf := fun v => !decide (V.int (sur n (DF n F) v) = V.int 0)) (p := ia) [("place", 6)] (ev_name 7) (.inl (.inl (.inl hia5))) (by omega) (fun a => [some (.ref wb), some (.ref pf), some (.ref pt), some y, some (.ref nn), some (.int (wor n (inP fs) F)), some (iV a), some (.ref ia)]) (fun a _ s0 H0 C clo fp => gv_name 6) (fun a => rfl) (fun a ha s0 H0 C clo fp => tv_ne (ev_meth hsu T.cNets.cl hr (ev_name 4) (e25 _ _ ho) rfl (av_cons (ev_name 6) av_nil) (fun H6 e6 => ⟨nn, a, rfl, r, wd, bd, cd, ea, rd, n, W, cl, kyF n F, DF n F, fs ++ ts, g.mono (e25.trans e6), d, (hmem a ha).1, rfl⟩)) ev_int) (fun a ha _ s0 H0 C clo fp => ev_name 6)) (fun H1 e1 => dp_iV _) (shL (okA_dI _) (Nat.le_trans (dep_dI _) (by decide)))) (by rw [hfil]; rfl))) rfl) fun H6 e6 => q H6 ((e02.trans e25).trans e6)))
def spLed (K : PySem.W.Frag) (CW : Addr) : Sp := fun vs H Q _ => ∃ wb pf pt y, vs = [.ref wb, .ref pf, .ref pt, y] ∧ ∃ n W fs ts rows F, WFT K CW H wb pf pt n W fs ts ∧ FlAt K H y rows ∧ FlRows n F rows ∧ Loose n fs ts F ∧
  ∀ (v : V) (rows : List Rw) (G : Mx) (H' : Hp), Ex H H' → FlAt K H' v rows → FlRows n G rows → Gst n W (inP fs) (inP ts) G → Q v H'
/-! led_flow: slots 0 web, 1 froms, 2 tos, 3 flow, 4 nets, 5 i, 6 j -/
theorem sc_led_flow : FnScope ["web", "froms", "tos", "flow", "nets", "i", "j"] ["web", "froms", "tos", "flow"] (defScope s_led_flow) := ⟨rfl, rfl, rfl, by decide +kernel, rfl, by decide +kernel, by decide +kernel⟩
theorem ok_led_flow (T : Tops K mg CR CW CN CH) (hae : Has P w K mg base 3 "are_ends" ["web", "froms", "tos"] (spEnds K CW)) (hil : Has P w K mg base 6 "is_loose" ["web", "froms", "tos", "flow"] (spIsLoose K CW)) (hni : HasC P w K mg base CN 4 "Nets" ["self", "web", "froms", "tos", "flow"] (spNtInit K CR CW CN)) (hcu : HasM P w K mg base CN 1 "cut_down" ["self"] (spCut CR CN)) (hba : HasM P w K mg base CN 4 "balance" ["self", "is_back"] (spBalance CR CN)) (hput : HasM P w K mg base CR 1 "put" ["self", "i", "j", "number"] (spPut CR)) (hfi : Has P w K mg base 4 "filled" ["rooms", "froms", "tos", "least"] (spFilled K CR)) (hfl : HasM P w K mg base CR 3 "flow" ["self"] (spFlow K CR)) : Has P w K mg base 7 "led_flow" ["web", "froms", "tos", "flow"] (spLed K CW) := by
  refine has_of (k := 6) T.led_flow sc_led_flow (fun _ _ _ _ _ _ us hl => match us, hl with | [_, _, _, _], _ => rfl) (fun vs H Q E h => by
    obtain ⟨wb, pf, pt, y, rfl, _⟩ := h
    rfl) ?_
  intro f cdv A outer s H0 H vs Q E E0 hr h
  obtain ⟨wb, pf, pt, y, rfl, n, W, fs, ts, rows, F, h0, hflo, hF, hL, q⟩ := h
  have nd := (sc_led_flow).nd
  have huu := hu_of hr
  have hA := hL.anti
  have en := h0.ends
  have wok := h0.web.ok
  refine bw_cons (sw_ifF (tv_is (tv_not (tv_val (ev_call hae hr (av_cons (ev_name 0) (av_cons (ev_name 1) (av_cons (ev_name 2) av_nil))) (fun H1 e1 => ⟨_, _, _, rfl, n, W, fs, ts, h0.web.mono e1, h0.f.mono e1, h0.t.mono e1, h0.ends, rfl⟩)))) rfl) fun H1 e1 => bw_nil ?_)
  refine bw_cons (sw_ifF (tv_is (tv_not (tv_val (ev_call hil hr (av_cons (ev_name 0) (av_cons (ev_name 1) (av_cons (ev_name 2) (av_cons (ev_name 3) av_nil)))) (fun H2 e2 => ⟨_, _, _, _, rfl, n, W, fs, ts, rows, F, h0.mono (e1.trans e2), hflo.kt (Kt.of (e1.trans e2)), hF, hL, rfl⟩)))) rfl) fun H2 e2 => bw_nil ?_)
  have e02 := e1.trans e2
  refine bw_cons (sw_set 4 (ew_nets hni hr (av_cons (ev_name 0) (av_cons (ev_name 1) (av_cons (ev_name 2) (av_cons (ev_name 3) av_nil)))) (h0.mono e02) (hflo.kt (Kt.of e02)) hF hA fun nn r wd bd cd ea rd cl H3 e3 g ok cov fbd frd => ?_))
  have e03 := e02.trans e3
  have fbd' : H bd = none := Evl.fresh_back e02 fbd
  have frd' : H rd = none := Evl.fresh_back e02 frd
  obtain ⟨dx3, ho3⟩ := g.ob
  refine bw_cons (sw_expr (ew_meth0 hcu T.cNets.cl hr (EVgo (ev_name 4) fun H4 e4 => ⟨nn, dx3, _, rfl, e4 _ _ ho3, rfl, nn, rfl, r, wd, bd, cd, ea, rd, n, W, cl, kyF n F, DF n F, fs ++ ts, g.mono e4, dok_F hA, wok, fun D5 H5 g5 d5 hc5 k5 => ?_⟩)))
  have x5 : Ex H H5 := Km.nil ((Km.of (M := []) (e03.trans e4)).drop k5 (by simp [frd']))
  obtain ⟨dx5, ho5⟩ := g5.ob
  refine bw_cons (sw_expr (ew_meth hba T.cNets.cl hr (EVgo (ev_name 4) fun H6 e6 => ⟨nn, dx5, _, rfl, e6 _ _ ho5, rfl, AVgo (av_cons ev_bl av_nil) fun H7 e7 => ⟨nn, true, rfl, r, wd, bd, cd, ea, rd, n, W, cl, kyF n F, D5, fs ++ ts, g5.mono (e6.trans e7), d5, fun D8 H8 g8 d8 hle8 hsh8 hz8 k8 => ?_⟩⟩)))
  have x8 : Ex H H8 := Km.nil ((Km.of (M := []) (x5.trans (e6.trans e7))).drop k8 (by simp [frd']))
  obtain ⟨dx8, ho8⟩ := g8.ob
  refine bw_cons (sw_expr (ew_meth hba T.cNets.cl hr (EVgo (ev_name 4) fun H9 e9 => ⟨nn, dx8, _, rfl, e9 _ _ ho8, rfl, AVgo (av_cons ev_bl av_nil) fun Ha ea' => ⟨nn, false, rfl, r, wd, bd, cd, ea, rd, n, W, cl, kyF n F, D8, fs ++ ts, g8.mono (e9.trans ea'), d8, fun D Hb gb db hleb hshb hzb kb => ?_⟩⟩)))
  have xb : Ex H Hb := Km.nil ((Km.of (M := []) (x8.trans (e9.trans ea'))).drop kb (by simp [frd']))
  have hbal : ∀ v, v < n → v ∉ fs ++ ts → sur n D v = 0 := fun v hv hve => by
    have h1 := hz8 v hv hve
    have h2 := hzb v hv hve
    have h3 := hshb v hv hve
    rw [sg_mul] at h1 h2
    rw [if_pos rfl] at h1
    rw [if_neg (by simp)] at h2
    unfold Shr at h3
    omega
  have hcap : ∀ i j, i < n → j < n → D i j ≤ W i j := fun i j hi hj => Int.le_trans (hleb i j) (Int.le_trans (hle8 i j) (hc5 i j hi hj))
  have hflw : Flw n W (inP fs) (inP ts) (netM D) := ⟨netM_anti D, fun i j hi hj => by
    have h1 := hcap i j hi hj
    have h2 := db.nn j i
    unfold netM
    omega, fun v hv h1 h2 => by
    rw [netM_ot, hbal v hv fun z => ?_]
    · rfl
    · rcases List.mem_append.mp z with z | z
      · rw [inP_iff.mpr z] at h1
        cases h1
      · rw [inP_iff.mpr z] at h2
        cases h2⟩
  have hcov : CovR n W (netM D) cl := fun a c ha hc hne => by
    by_cases c1 : W a c = 0
    · exfalso
      have h1 := hcap a c ha hc
      have h2 := hcap c a hc ha
      have h3 := db.nn a c
      have h4 := db.nn c a
      have h5 := wok.sym a c
      have h6 := hne.resolve_left fun z => z c1
      unfold netM at h6
      omega
    · exact cov a c ha hc (.inl c1)
  -- the rows go into the rooms
  obtain ⟨dxb, hob⟩ := gb.ob
  obtain ⟨kvs, gg, hk, hpd, hgg⟩ := gb.rw_
  have hle := gb.rm.le
  have n1 := gb.n1
  have n2 := gb.n2
  have nnr : nn ≠ rd := ne_of hob hk (by intro z; cases z)
  have Rlock : ∀ od, RmX CR (upd Hb rd (.frz od (.dT kvs))) r wd bd cd n W zeM cl := fun od => gb.rm.keep hk ((Km.of (Ex.refl _)).upd (by simp)) n1 n2
  have hprs := keys_nd hpd
  refine bw_cons (sw_forK (d := rd) (kvs := kvs) PassesOwn.never hk (fun od => ev_fld (ev_name 4) (v := .ref rd) ⟨CN, dxb, _, by rw [upd_ne nnr]; exact hob, T.cNets.cl, T.nNets.rows, rfl⟩) (fun od k σ' H' => ∃ (zi zj : Option V) (G : Mx), σ' = [some (.ref wb), some (.ref pf), some (.ref pt), some y, some (.ref nn), zi, zj] ∧ Km [bd] (upd Hb rd (.frz od (.dT kvs))) H' ∧ RmAt CR H' r bd n W G cl ∧ (∀ p ∈ (kvs.take k).map (fun kv => kPr kv.1), G p.1 p.2 = D p.1 p.2) ∧ ∀ a c, (a, c) ∉ (kvs.take k).map (fun kv => kPr kv.1) → (c, a) ∉ (kvs.take k).map (fun kv => kPr kv.1) → G a c = 0) ?_ ?_ ?_ ?_)
  · intro od Hc ec
    exact ⟨_, _, zeM, rfl, Km.of ec, ((Rlock od).mono ec).at, fun p hp => by simp at hp, fun _ _ _ _ => rfl⟩
  · rintro od i σ' H' ⟨_, _, _, _, kk, _⟩
    exact kk _ _ upd_same (by simpa using n2)
  · rintro od i k v q' σ' H' hi hq ⟨zi, zj, G, rfl, kk, RG, hG, hZ⟩
    have hmem := List.mem_of_getElem? hi
    obtain ⟨a, c, ha, hc, ek, ev⟩ := hpd.mem hmem
    replace ek : k = kp a c := ek
    subst ek
    replace ev : gg a c = some v := ev
    rw [hgg] at ev
    have hky : kyF n F a c = true := by
      cases e : kyF n F a c with
      | true => rfl
      | false =>
        rw [e] at ev
        cases ev
    rw [if_pos hky] at ev
    have hv : v = .int (D a c) := (Option.some.inj ev).symm
    have hval : valV kvs (kp a c) = some (.int (D a c)) := by
      rw [← hv]
      exact valV_mem hpd.nd hmem
    obtain ⟨_, _, hac, hca⟩ := db.kin _ _ hky
    have ho2 : H' nn = some (.ins CN dxb (ntFs r ea rd)) := kk _ _ (by rw [upd_ne nnr]; exact hob) (by
      obtain ⟨_, _, hbd, _⟩ := gb.rm.br
      have : nn ≠ bd := ne_of hob hbd (by intro z; cases z)
      simpa using this)
    have hrd2 : H' rd = some (.frz od (.dT kvs)) := kk _ _ upd_same (by simpa using n2)
    have hpk : kPr (kp a c) = (a, c) := kPr_kp a c
    have hnd := hprs.1
    have hfresh : (a, c) ∉ (kvs.take i).map (fun kv => kPr kv.1) := fun z => by
      obtain ⟨i', hi'⟩ := List.mem_iff_getElem?.mp z
      rw [List.getElem?_map] at hi'
      cases e : (kvs.take i)[i']? with
      | none => rw [e] at hi'; cases hi'
      | some kv' =>
        rw [e] at hi'
        have hlt : i' < i := by
          have := (List.getElem?_eq_some_iff.mp e).1
          rw [List.length_take] at this
          omega
        rw [List.getElem?_take_of_lt hlt] at e
        have h3 := List.pairwise_iff_getElem.mp (List.pairwise_map.mp hnd) i' i (List.getElem?_eq_some_iff.mp e).1 (List.getElem?_eq_some_iff.mp hi).1 hlt
        rw [(List.getElem?_eq_some_iff.mp e).2, (List.getElem?_eq_some_iff.mp hi).2] at h3
        refine h3 ?_
        rw [hpk]
        exact Option.some.inj hi'
    have hfresh2 : (c, a) ∉ (kvs.take i).map (fun kv => kPr kv.1) := fun z => by
      obtain ⟨kv', hkv', e⟩ := List.mem_map.mp z
      obtain ⟨a', c', _, _, ek', ev'⟩ := hpd.mem (List.mem_of_mem_take hkv')
      rw [ek', kPr_kp] at e
      obtain ⟨rfl, rfl⟩ := Prod.mk.inj e
      rw [hgg, hca] at ev'
      cases ev'
    have Gac : G a c = 0 := hZ a c hfresh hfresh2
    refine gw_tup (n := 2) (SqT.of hq) (gws_cons (gw_name 5 (gws_cons (gw_name 6 (gws_nil ?_)))))
    obtain ⟨⟨dxr, _, _, obr, _⟩, _⟩ := id RG
    have flr : Fl K H' nn "rooms" (.ref r) := ⟨CN, dxb, _, ho2, T.cNets.cl, T.nNets.rooms, rfl⟩
    have flw : Fl K H' nn "rows" (.ref rd) := ⟨CN, dxb, _, ho2, T.cNets.cl, T.nNets.rows, rfl⟩
    refine bw_one (sw_expr (ew_meth hput T.cRooms.cl hr (EVgo (ev_fld (ev_name 4) flr) fun Hc ec => ⟨r, dxr, _, rfl, ec _ _ obr, rfl, AVgo (av_cons (ev_name 5) (av_cons (ev_name 6) (av_cons (ev_itemT (k := kp a c) huu (ev_fld (ev_name 4) (flw.mono ec)) (evu_tup (av_cons (ev_name 5) (av_cons (ev_name 6) av_nil))) (.inr ⟨od, ec _ _ hrd2⟩) hval) av_nil))) fun Hd ed => ⟨r, a, c, _, rfl, bd, n, W, G, cl, RG.mono (ec.trans ed), ha, hc, hac, fun He Re ke => ⟨some (iV a), some (iV c), Cut.pt G a c (D a c), rfl, (kk.trans (Km.of (ec.trans ed))).trans ke, Re, ?_, ?_⟩⟩⟩)))
    · intro p hp
      rw [take_snoc hi, List.map_append] at hp
      unfold Cut.pt
      rcases List.mem_append.mp hp with z | z
      · have c1 : ¬ (p.1 = a ∧ p.2 = c) := fun w => hfresh (by rw [← w.1, ← w.2]; exact z)
        have c2 : ¬ (p.1 = c ∧ p.2 = a) := fun w => hfresh2 (by rw [← w.1, ← w.2]; exact z)
        rw [if_neg c1, if_neg c2, hG p z]
        omega
      · have : p = kPr (kp a c) := List.mem_singleton.mp z
        rw [hpk] at this
        rw [this]
        show G a c + (if a = a ∧ c = c then D a c else 0) - (if a = c ∧ c = a then D a c else 0) = D a c
        rw [if_pos ⟨rfl, rfl⟩, if_neg (fun w => hac w.1), Gac]
        omega
    · intro x z h1 h2
      rw [take_snoc hi, List.map_append] at h1 h2
      have c1 : ¬ (x = a ∧ z = c) := fun w => h1 (List.mem_append_right _ (by rw [w.1, w.2]; exact List.mem_singleton.mpr hpk.symm))
      have c2 : ¬ (x = c ∧ z = a) := fun w => h2 (List.mem_append_right _ (by rw [w.1, w.2]; exact List.mem_singleton.mpr hpk.symm))
      unfold Cut.pt
      rw [if_neg c1, if_neg c2, hZ x z (fun w => h1 (List.mem_append_left _ w)) (fun w => h2 (List.mem_append_left _ w))]
      rfl
  · rintro od σ' H' ⟨zi, zj, G, rfl, kk, RG, hG, hZ⟩
    rw [List.take_length] at hG hZ
    have hGn : ∀ a c, a < n → c < n → G a c = netM D a c := fun a c ha hc => by
      have hin : ∀ {a c}, kyF n F a c = true → (a, c) ∈ kvs.map (fun kv => kPr kv.1) := fun {a c} h => (hprs.2 a c).mpr ⟨_, by rw [hgg, h]; rfl⟩
      have hout : ∀ {a c}, kyF n F a c = false → (a, c) ∉ kvs.map (fun kv => kPr kv.1) := fun {a c} h z => by
        obtain ⟨v, hv⟩ := (hprs.2 a c).mp z
        rw [hgg, h] at hv
        cases hv
      unfold netM
      cases c1 : kyF n F a c with
      | true =>
        have h1 := hG _ (hin c1)
        replace h1 : G a c = D a c := h1
        have h2 := db.out c a (db.kin _ _ c1).2.2.2
        omega
      | false =>
        have h0 := db.out a c c1
        cases c2 : kyF n F c a with
        | true =>
          have h1 := hG _ (hin c2)
          replace h1 : G c a = D c a := h1
          have h2 := RG.an a c
          omega
        | false =>
          have h1 := hZ a c (hout c1) (hout c2)
          have h2 := db.out c a c2
          omega
    -- unlocked again
    have kU : Km [bd] Hb (upd H' rd (.dT kvs)) := fun p o hp hpm => by
      by_cases z : p = rd
      · rw [z] at hp ⊢
        rw [hk] at hp
        rw [upd_same]
        exact hp
      · rw [upd_ne z]
        exact kk p o (by rw [upd_ne z]; exact hp) hpm
    have brU : BrAt (upd H' rd (.dT kvs)) bd n (netM D) := by
      obtain ⟨kb, fb, h1, h2, h3⟩ := RG.br
      refine ⟨kb, fb, by rw [upd_ne (Ne.symm n2)]; exact h1, h2, fun i j hi hj => ?_⟩
      rw [← hGn i j hi hj]
      exact h3 i j hi hj
    have RU : RmAt CR (upd H' rd (.dT kvs)) r bd n W (netM D) cl := gb.rm.at.brought kU brU (netM_anti D)
    have xU : Ex H (upd H' rd (.dT kvs)) := Km.nil ((Km.of (M := []) xb).drop kU (by simp [fbd']))
    have hoU : (upd H' rd (.dT kvs)) nn = some (.ins CN dxb (ntFs r ea rd)) := kU _ _ hob (by
      obtain ⟨_, _, hbd, _⟩ := gb.rm.br
      have : nn ≠ bd := ne_of hob hbd (by intro z; cases z)
      simpa using this)
    generalize upd H' rd (.dT kvs) = HU at RU xU hoU
    have flU : Fl K HU nn "rooms" (.ref r) := ⟨CN, dxb, _, hoU, T.cNets.cl, T.nNets.rooms, rfl⟩
    refine bw_cons (sw_expr (ew_call hfi hr (AVgo (av_cons (ev_fld (ev_name 4) flU) (av_cons (ev_name 1) (av_cons (ev_name 2) (av_cons ev_int av_nil)))) fun Hc ec => ⟨r, pf, pt, 1, rfl, bd, n, W, netM D, cl, fs, ts, RU.mono ec, ok, hcov, h0.f.mono (xU.trans ec), h0.t.mono (xU.trans ec), en, by omega, hflw, fun kn G2 Hd Rd' cd' fd nod kd => ?_⟩)))
    have xd : Ex H Hd := Km.nil ((Km.of (M := []) (xU.trans ec)).drop kd (by simp [fbd']))
    have hod : Hd nn = some (.ins CN dxb (ntFs r ea rd)) := kd _ _ (ec _ _ hoU) (by
      obtain ⟨_, _, hbd, _⟩ := gb.rm.br
      have : nn ≠ bd := ne_of hob hbd (by intro z; cases z)
      simpa using this)
    obtain ⟨⟨dxr, _, _, obr, _⟩, _⟩ := id Rd'
    exact bw_one (sw_ret (ew_meth0 hfl T.cRooms.cl hr (EVgo (ev_fld (ev_name 4) ⟨CN, dxb, _, hod, T.cNets.cl, T.nNets.rooms, rfl⟩) fun He ee => ⟨r, dxr, _, rfl, ee _ _ obr, rfl, r, rfl, bd, n, W, G2, cl, Rd'.mono ee, fun v rows Hf ef hv hrows => q v rows G2 Hf (xd.trans (ee.trans ef)) hv hrows (gst_noway fd nod)⟩)))
end
end Cut


namespace Cut
open PySem PySem.Spec PyProof.Rows L2 Evl
/-! ### ints that are not known ahead; lists of draws -/
section
variable {X : Cx} {σ : L2.St} {H : Hp} {pos p apos p2 : Pos} {a b o e : Expr} {Q : VK} {l : Addr}
theorem ew_addI (h : EW X a σ H fun x H1 => ∃ i : Int, x = .int i ∧ EW X b σ H1 fun y H2 => ∃ j : Int, y = .int j ∧ Q (.int (i + j)) H2) : EW X (.BinOp a .Add b pos) σ H Q :=
  ew_of (pe_op op_add pe_w pe_w) (EW.mono h fun x H1 ⟨i, e1, h⟩ => EW.mono h fun y H2 ⟨j, e2, q⟩ => ⟨i, j, e1, e2, q⟩)
theorem ew_subI (h : EW X a σ H fun x H1 => ∃ i : Int, x = .int i ∧ EW X b σ H1 fun y H2 => ∃ j : Int, y = .int j ∧ Q (.int (i - j)) H2) : EW X (.BinOp a .Sub b pos) σ H Q :=
  ew_of (pe_op op_sub pe_w pe_w) (EW.mono h fun x H1 ⟨i, e1, h⟩ => EW.mono h fun y H2 ⟨j, e2, q⟩ => ⟨i, j, e1, e2, q⟩)
theorem ew_modI (h : EW X a σ H fun x H1 => ∃ i : Int, x = .int i ∧ EW X b σ H1 fun y H2 => ∃ j : Int, y = .int j ∧ 0 < j ∧ Q (.int (i % j)) H2) : EW X (.BinOp a .Mod b pos) σ H Q :=
  ew_of (pe_op op_mod pe_w pe_w) (EW.mono h fun x H1 ⟨i, e1, h⟩ => EW.mono h fun y H2 ⟨j, e2, hj, q⟩ => ⟨i, j, e1, e2, hj, q⟩)
theorem tw_eqI {Q : Bool → Hp → Prop} (h : EW X a σ H fun x H1 => ∃ i : Int, x = .int i ∧ EW X b σ H1 fun y H2 => ∃ j : Int, y = .int j ∧ Q (decide (i = j)) H2) : TW X (.Compare a [.Eq] [b] pos) σ H Q :=
  tw_of (pt_cmpR op_eq pe_w pe_w (nomark _)) (EW.mono h fun x H1 ⟨i, e1, h⟩ => EW.mono h fun y H2 ⟨j, e2, q⟩ => by
    subst e1 e2
    refine ⟨rfl, _, rfl, ?_⟩
    rw [show decide (V.int i = V.int j) = decide (i = j) by simp]
    exact q)
theorem ew_ixLI (h : EW X a σ H fun x H1 => ∃ p, x = .ref p ∧ EW X b σ H1 fun y H2 => ∃ (xs : List V) (j : Nat) (v : V), y = .int (j : Int) ∧ SqL X.K H2 p xs ∧ xs[j]? = some v ∧ Q v H2) (hs : PlainIx b := by exact fun _ _ => rfl) : EW X (.Subscript a b pos) σ H Q :=
  ew_of (pe_ix ix_list pe_w pe_w hs) (EW.mono h fun x H1 ⟨p, e1, h⟩ => EW.mono h fun y H2 ⟨xs, j, v, e2, h1, h2, q⟩ => ⟨p, xs, (j : Int), v, e1, e2, h1, atI_nat h2, q⟩)
theorem ew_ixTI (h : EW X a σ H fun x H1 => ∃ p, x = .ref p ∧ EW X b σ H1 fun y H2 => ∃ (xs : List V) (j : Nat) (v : V), y = .int (j : Int) ∧ SqT X.K H2 p xs ∧ xs[j]? = some v ∧ Q v H2) (hs : PlainIx b := by exact fun _ _ => rfl) : EW X (.Subscript a b pos) σ H Q :=
  ew_of (pe_ix ix_tup pe_w pe_w hs) (EW.mono h fun x H1 ⟨p, e1, h⟩ => EW.mono h fun y H2 ⟨xs, j, v, e2, h1, h2, q⟩ => ⟨p, xs, (j : Int), v, e1, e2, h1, atI_nat h2, q⟩)
/-- xs.pop(e), the place a natural number -/
theorem ew_popAt (ho : EV X o σ H (.ref l)) (hl : ∃ xs, H l = some (.lst xs)) (q : ∀ H1, Ex H H1 → EW X e σ H1 fun y H2 => ∃ (xs : List V) (k : Nat) (v : V), y = .int (k : Int) ∧ k < 100000 ∧ H2 l = some (.lst xs) ∧ xs[k]? = some v ∧ Q v (upd H2 l (.lst (xs.eraseIdx k))))
    (hbase : attributeBase o "pop" X.env (eval o X.env) = eval o X.env := by rfl)
    (hfew : ((backTo pos (starEach [e] X.env)).all (fun x => !x.1) && (backToKw pos (keywordEach [] X.env)).all (fun x => x.1.isSome) && decide ([e].length + ([] : List Keyword).length + (if ([] : List Keyword).isEmpty then 0 else 1) < 30)) = true := by rfl)
    (hline : (apos.endLine == pos.line) = true := by rfl) (hs : starEach [e] X.env = (false, eval e X.env) :: starEach [] X.env := by rfl) (hplain : (backTo pos (starEach [] X.env)).any (·.1) = false := by rfl) : EW X (.Call (.Attribute o "pop" apos) [e] [] pos) σ H Q :=
  ew_of (pe_bm PySem.F.plainAttrs_list PySem.F.slot_list_pop PySem.F.type_list_pop mt_popAt pe_w pa_w hbase hfew hline hs hplain) (EVgo (te := EW X o) ho fun H1 e1 => by
    obtain ⟨xs, hx⟩ := hl
    refine ⟨.inl ⟨rfl, xs, .inl (.inl (e1 _ _ hx))⟩, aw_cons (EW.mono (q H1 e1) fun y H2 ⟨xs, k, v, h1, h2, h3, h4, h5⟩ => aw_nil ⟨l, xs, (k : Int), k, v, rfl, by rw [h1], h3, by omega, by omega, ?_, h4, h5⟩) hs⟩
    have hk := (List.getElem?_eq_some_iff.mp h4).1
    rw [PySem.seqIndex_of (by omega) (by omega), Int.toNat_natCast])
/-- xs[:k], xs[a:b] -/
theorem ew_upto {k : Nat} {xs : List V} (ho : EV X o σ H (.ref l)) (hl : SqL X.K H l xs) (he : EV X e σ H (.int (k : Int))) (hk : k ≤ xs.length) (q : ∀ p H1, Ex H H1 → H p = none → H1 p = some (.lst (xs.take k)) → Q (.ref p) H1) : EW X (.Subscript o (.Slice none (some e) none p2) pos) σ H Q :=
  ew_of (pe_slice sl_list pe_w po_none (po_some pe_w)) (EVgo (te := EW X o) ho fun H1 e1 => EVgo (te := EW X e) (Evl.Ev.mono e1 he) fun H2 e2 => ⟨_, rfl, l, xs, rfl, Evl.ex_l (e1.trans e2) hl, fun p np => q p _ ((e1.trans e2).trans (Ex.new np)) (Evl.fresh_back (e1.trans e2) np) (by
    rw [upd_same]
    unfold cutV
    rw [HT.sIx_none, HT.sIx_nat, Nat.min_eq_left hk, Nat.sub_zero, List.drop_zero])⟩)
theorem ew_cut {a' b' : Expr} {i j : Nat} {xs : List V} (ho : EV X o σ H (.ref l)) (hl : SqL X.K H l xs) (ha : EV X a' σ H (.int (i : Int))) (hb : EV X b' σ H (.int (j : Int))) (hi : i ≤ xs.length) (hj : j ≤ xs.length) (q : ∀ p H1, Ex H H1 → H p = none → H1 p = some (.lst ((xs.drop i).take (j - i))) → Q (.ref p) H1) : EW X (.Subscript o (.Slice (some a') (some b') none p2) pos) σ H Q :=
  ew_of (pe_slice sl_list pe_w (po_some pe_w) (po_some pe_w)) (EVgo (te := EW X o) ho fun H1 e1 => EVgo (te := EW X a') (Evl.Ev.mono e1 ha) fun H2 e2 => ⟨_, rfl, EVgo (te := EW X b') (Evl.Ev.mono (e1.trans e2) hb) fun H3 e3 => ⟨_, rfl, l, xs, rfl, Evl.ex_l ((e1.trans e2).trans e3) hl, fun p np => q p _ (((e1.trans e2).trans e3).trans (Ex.new np)) (Evl.fresh_back ((e1.trans e2).trans e3) np) (by
    rw [upd_same]
    unfold cutV
    rw [HT.sIx_nat, HT.sIx_nat, Nat.min_eq_left hi, Nat.min_eq_left hj])⟩⟩)
/-- a loop over a list that comes on the way -/
theorem sw_forLW {tg iter : Expr} {sts : List Stmt} {D : Ends} (hp : PassesOwn (model X.prog X.w) X.A X.env X.xe)
    (h : EW X iter σ H fun x H1 => ∃ p xs, x = .ref p ∧ SqL X.K H1 p xs ∧ ∃ Pv : Nat → L2.St → Hp → Prop, Pv 0 σ H1 ∧ (∀ i σ' H', i ≤ xs.length → Pv i σ' H' → SqL X.K H' p xs) ∧ (∀ (i : Nat) x σ' H', xs[i]? = some x → Pv i σ' H' → GW X tg x σ' H' fun σ2 H2 => BW X sts { D with nx := Pv (i + 1), ct := Pv (i + 1), bk := D.nx } σ2 H2) ∧ ∀ σ' H', Pv xs.length σ' H' → D.nx σ' H')
    (hc : X.calm = true := by rfl) (hf : ∀ x, foldedSetIterable iter X.env x = pure x := by intro _; rfl) : SW X (.For tg iter sts [] pos) D σ H :=
  sw_for hp (iw_L (EW.mono h fun x H1 ⟨p, xs, e1, hx, Pv, h0, hl, hs, hd⟩ => ⟨p, e1, ⟨xs, hx⟩, for_it walk_list Pv h0 hl (fun i x σ' H2 H3 hi pv y => by
    obtain ⟨rfl, hxi⟩ := y
    exact hs i x σ' _ hxi pv) hd⟩)) hc hf
/-- a loop over range(n), n comes on the way -/
theorem sw_forRW {tg : Expr} {sts : List Stmt} {pos' : Pos} {D : Ends} (hp : PassesOwn (model X.prog X.w) X.A X.env X.xe) (hm : X.mg "range" = none)
    (h : EW X a σ H fun x H1 => ∃ n : Nat, x = .int (n : Int) ∧ n ≤ 100000 ∧ ∃ Pv : Nat → L2.St → Hp → Prop, Pv 0 σ H1 ∧ (∀ (i : Nat) σ' H', i < n → Pv i σ' H' → GW X tg (.int (i : Int)) σ' H' fun σ2 H2 => BW X sts { D with nx := Pv (i + 1), ct := Pv (i + 1), bk := D.nx } σ2 H2) ∧ ∀ σ' H', Pv n σ' H' → D.nx σ' H') (hg : Gl X "range" := by rfl) (hc : X.calm = true := by rfl)
    (hst : starEach [a] X.env = [(false, eval a X.env)] := by rfl) (hst2 : starEach [a] X.env = (false, eval a X.env) :: starEach [] X.env := by rfl) (hf : ∀ x, foldedSetIterable (.Call (.Name "range" p) [a] [] pos') X.env x = pure x := by intro _; rfl) :
    SW X (.For tg (.Call (.Name "range" p) [a] [] pos') sts [] pos) D σ H := sw_of (ps_for hp hc (pi_range1 hg hm pa_w hst) pg_w pss_w hf) (aw_cons (EW.mono h fun x H1 ⟨n, e1, hn, Pv, h0, hs, hd⟩ => aw_nil ⟨n, by rw [e1], by omega, by omega, for_range (lo := 0) (n := (n : Int).toNat) Pv h0 (fun i σ' H' hi p => by
      have e0 : (0 : Int) + (i : Int) = (i : Int) := Int.zero_add _
      rw [e0]
      exact hs i σ' H' (by omega) p) (by rw [Int.toNat_natCast]; exact hd)⟩) hst2)
theorem evu_is {xs ys : List V} (h : EVU X e σ H xs) (q : xs = ys) : EVU X e σ H ys := q ▸ h
end
theorem star_tup {ts es : List Expr} {k : Nat} {p : Pos} {env : Env} : starEach (.Tuple ts k p :: es) env = (false, eval (.Tuple ts k p) env) :: starEach es env := rfl
theorem star_name {es : List Expr} {x : Str} {p : Pos} {env : Env} : starEach (.Name x p :: es) env = (false, eval (.Name x p) env) :: starEach es env := rfl
/-! things written out one by one, each keeps R -/
inductive ExsE (X : Cx) (σ : L2.St) (H : Hp) (R : V → Hp → Prop) : List Expr → Prop where
  | nil : ExsE X σ H R []
  | cons {e : Expr} {es : List Expr} (hs : starEach (e :: es) X.env = (false, eval e X.env) :: starEach es X.env) (h : EX (EW X e) σ H R) (r : ExsE X σ H R es) : ExsE X σ H R (e :: es)
theorem aw_exs {X : Cx} {σ : L2.St} {H : Hp} {R : V → Hp → Prop} (hR : ∀ y H1 H2, R y H1 → Ex H1 H2 → R y H2) {es : List Expr} (t : ExsE X σ H R es) : ∀ {H1 : Hp} {Q : List V → Hp → Prop}, Ex H H1 → (∀ ys H2, Ex H1 H2 → ys.length = es.length → (∀ y ∈ ys, R y H2) → Q ys H2) → AW X es σ H1 Q := by
  induction t with
  | nil => exact fun {H1 Q} e1 q => aw_nil (q [] H1 (Ex.refl H1) rfl fun y hy => nomatch hy)
  | @cons e es hs h r ih => exact fun {H1 Q} e1 q => aw_cons (hs := hs) (h H1 e1 _ fun v H2 e2 r2 => ih (e1.trans e2) fun ys H3 e3 hl hall => q _ H3 (e2.trans e3) (by rw [List.length_cons, List.length_cons, hl]) fun y hy => by
      rcases List.mem_cons.mp hy with rfl | hy
      · exact hR _ _ _ r2 e3
      · exact hall y hy)
theorem yes_of {σ : L2.St} {H : Hp} {A B : Hp → Prop} (h : A H) : tYes σ H fun b H3 => if b = true then A H3 else B H3 := by
  show if true = true then A H else B H
  rw [if_pos rfl]
  exact h
/-! comprehensions over a range: all that comes keeps R -/
section
variable {X : Cx} {scope : Scope} {σ : L2.St} {H : Hp} {elt tg c : Expr} {Q : VK} {vs : List Nat} {R : V → Hp → Prop}
theorem lc_rU {a : Expr} {p pos' : Pos} {n : Nat} (hm : X.mg "range" = none) (h : EV X a σ H (.int (n : Int))) (hn : n ≤ 1000) (sg : Nat → L2.St)
    (hg : ∀ i, i < n → ∀ s0 H0 C cl fp, GV (Bk X scope s0 H0 C cl fp) tg (.int (i : Int)) (wipe σ vs) H (sg i)) (hw : ∀ a, wipe (sg a) vs = wipe σ vs) (he : ∀ i, i < n → ∀ s0 H0 C cl fp, EX (EW (Bk X scope s0 H0 C cl fp) elt) (sg i) H R) (hR : ∀ y H1 H2, R y H1 → Kt H1 H2 → R y H2)
    (q : ∀ p ys H2, H p = none → Ex H H2 → H2 p = some (.lst ys) → ys.length = n → (∀ y ∈ ys, R y H2) → Q (.ref p) H2) (hgl : Gl X "range" := by rfl) (hst : starEach [a] X.env = [(false, eval a X.env)] := by rfl) :
    tLc (IW X tg (.Call (.Name "range" p) [a] [] pos')) (GB X scope tg) tYes (EB X scope elt) vs σ H Q :=
  lcR hm h (by omega) (fun D i H' => H D = none ∧ Ex H H' ∧ ∃ ys, H' D = some (.lst ys) ∧ ys.length = i ∧ ∀ y ∈ ys, R y H') (fun D H1 e1 hD => ⟨Evl.fresh_back e1 hD, Ex.mut e1 (Evl.fresh_back e1 hD), [], upd_same, rfl, fun y hy => nomatch hy⟩) (fun D i H' hi ⟨p1, p2, ys, p3, p4, p5⟩ => fun s0 H0 C cl fp => hg i hi s0 H0 C cl fp H' p2 _ fun H2 e2 => ⟨hw i, yes_of fun s0 H0 C cl fp => he i hi s0 H0 C cl fp H2 (p2.trans e2) _ fun y H4 e4 r4 => by
    have h4 := e4 _ _ (e2 _ _ p3)
    have k5 : Kt H4 (upd H4 D (.lst (ys ++ [y]))) := Kt.updL h4
    refine ⟨ys, h4, Evl.sz_lt (by omega), p1, Ex.mut ((p2.trans e2).trans e4) p1, ys ++ [y], upd_same, by rw [List.length_append, p4]; rfl, fun z hz => ?_⟩
    rcases List.mem_append.mp hz with hz | hz
    · exact hR _ _ _ (p5 z hz) ((Kt.of (e2.trans e4)).trans k5)
    · rw [List.mem_singleton.mp hz]
      exact hR _ _ _ r4 k5⟩) (fun D H' ⟨p1, p2, ys, p3, p4, p5⟩ => q D ys H' p1 p2 p3 p4 p5) hgl hst
theorem lc_rU2 {a b : Expr} {p pos' : Pos} {lo n : Nat} (hm : X.mg "range" = none) (h : EV X a σ H (.int (lo : Int))) (h' : EV X b σ H (.int (n : Int))) (hn : lo ≤ 1000 ∧ n ≤ 1000) (sg : Nat → L2.St)
    (hg : ∀ i, lo + i < n → ∀ s0 H0 C cl fp, GV (Bk X scope s0 H0 C cl fp) tg (.int ((lo + i : Nat) : Int)) (wipe σ vs) H (sg i)) (hw : ∀ a, wipe (sg a) vs = wipe σ vs) (he : ∀ i, lo + i < n → ∀ s0 H0 C cl fp, EX (EW (Bk X scope s0 H0 C cl fp) elt) (sg i) H R) (hR : ∀ y H1 H2, R y H1 → Kt H1 H2 → R y H2)
    (q : ∀ p ys H2, H p = none → Ex H H2 → H2 p = some (.lst ys) → ys.length = n - lo → (∀ y ∈ ys, R y H2) → Q (.ref p) H2) (hgl : Gl X "range" := by rfl) (hst : starEach [a, b] X.env = [(false, eval a X.env), (false, eval b X.env)] := by rfl) (hst2 : starEach [b] X.env = [(false, eval b X.env)] := by rfl) :
    tLc (IW X tg (.Call (.Name "range" p) [a, b] [] pos')) (GB X scope tg) tYes (EB X scope elt) vs σ H Q :=
  lcR2 hm h h' (by omega) (fun D i H' => H D = none ∧ Ex H H' ∧ ∃ ys, H' D = some (.lst ys) ∧ ys.length = i ∧ ∀ y ∈ ys, R y H') (fun D H1 e1 hD => ⟨Evl.fresh_back e1 hD, Ex.mut e1 (Evl.fresh_back e1 hD), [], upd_same, rfl, fun y hy => nomatch hy⟩) (fun D i H' hi ⟨p1, p2, ys, p3, p4, p5⟩ => fun s0 H0 C cl fp => hg i hi s0 H0 C cl fp H' p2 _ fun H2 e2 => ⟨hw i, yes_of fun s0 H0 C cl fp => he i hi s0 H0 C cl fp H2 (p2.trans e2) _ fun y H4 e4 r4 => by
    have h4 := e4 _ _ (e2 _ _ p3)
    have k5 : Kt H4 (upd H4 D (.lst (ys ++ [y]))) := Kt.updL h4
    refine ⟨ys, h4, Evl.sz_lt (by omega), p1, Ex.mut ((p2.trans e2).trans e4) p1, ys ++ [y], upd_same, by rw [List.length_append, p4]; rfl, fun z hz => ?_⟩
    rcases List.mem_append.mp hz with hz | hz
    · exact hR _ _ _ (p5 z hz) ((Kt.of (e2.trans e4)).trans k5)
    · rw [List.mem_singleton.mp hz]
      exact hR _ _ _ r4 k5⟩) (fun D H' ⟨p1, p2, ys, p3, p4, p5⟩ => q D ys H' p1 p2 p3 p4 p5) hgl hst hst2
end
theorem rgV_iV (n : Nat) : rgV 0 (n : Int) = (List.range n).map iV := by
  unfold rgV
  rw [show ((n : Int) - 0).toNat = n by omega]
  refine List.map_congr_left fun i _ => ?_
  show V.int (0 + (i : Int)) = V.int (i : Int)
  rw [Int.zero_add]
/-- list(range(n)) -/
theorem ew_listRange {X : Cx} {σ : L2.St} {H : Hp} {pos p pos' p' : Pos} {a : Expr} {Q : VK} {n : Nat} (hl : X.mg "list" = none) (hm : X.mg "range" = none) (h : EV X a σ H (.int (n : Int))) (hn : n ≤ 1000) (q : ∀ l H1, Ex H H1 → H l = none → H1 l = some (.lst ((List.range n).map iV)) → Q (.ref l) H1) (hc : X.calm = true := by rfl) (hg : Gl X "list" := by rfl) (hg2 : Gl X "range" := by rfl)
    (na : starEach [a] X.env = (false, eval a X.env) :: starEach [] X.env := by rfl) (nb : starEach [.Call (.Name "range" p') [a] [] pos'] X.env = (false, eval (.Call (.Name "range" p') [a] [] pos') X.env) :: starEach [] X.env := by rfl) : EW X (.Call (.Name "list" p) [.Call (.Name "range" p') [a] [] pos'] [] pos) σ H Q :=
  ew_of (pe_listRg hc hg hl (prg_1 hg2 hm pe_w na) nb) (EVgo (te := EW X a) h fun H1 e1 => ⟨(n : Int), rfl, .of_le (by omega) (by omega) (by omega) (by omega), fun l nl => q l _ (e1.trans (Ex.new nl)) (Evl.fresh_back e1 nl) (by rw [upd_same, rgV_iV])⟩)
end Cut


namespace Cut
open PySem PySem.Spec PyProof.Rows L2 Evl
/-! ### draws -/
def DrAt (H : Hp) (da : Addr) : Prop := ∃ ds : List Nat, ds.length ≤ 400 ∧ H da = some (.lst (ds.map iV))
theorem DrAt.mono {H H' : Hp} {da : Addr} (h : DrAt H da) (e : Ex H H') : DrAt H' da := let ⟨ds, h1, h2⟩ := h; ⟨ds, h1, e _ _ h2⟩
/-- lists of natural numbers below n -/
theorem dropLast_iV (ds : List Nat) : (ds.map iV).dropLast = ds.dropLast.map iV := by
  rw [List.map_dropLast]
section
variable {P : Program} {w : World} {K : PySem.W.Frag} {mg : Str → Option Value} {base : Heap} {CR CW CN CH : Addr}
def spCe (K : PySem.W.Frag) : Sp := fun vs H Q _ => ∃ (p : Addr) (ns : List Int) (k : Nat), vs = [.ref p, .int (k : Int)] ∧ SqL K H p (ns.map V.int) ∧ k ≤ 1000 ∧ ∀ (v : Int) H', Ex H H' → Q (.int v) H'
/-! _law_cell: slots 0 _law_script, 1 _law_k, 2 _law_spare -/
theorem sc_law_cell : FnScope ["_law_script", "_law_k", "_law_spare"] ["_law_script", "_law_k"] (defScope s_law_cell) := ⟨rfl, rfl, rfl, by decide +kernel, rfl, by decide +kernel, by decide +kernel⟩
theorem ok_law_cell (T : Tops K mg CR CW CN CH) : Has P w K mg base 1 "_law_cell" ["_law_script", "_law_k"] (spCe K) := by
  refine has_of (k := 0) T.law_cell sc_law_cell (fun _ _ _ _ _ _ us hl => match us, hl with | [_, _], _ => rfl) (fun vs H Q E h => by
    obtain ⟨p, ns, k, rfl, _⟩ := h
    rfl) ?_
  intro f cdv A outer s H0 H vs Q E E0 hr h
  obtain ⟨p, ns, k, rfl, hs, hk, q⟩ := h
  have nd := (sc_law_cell).nd
  refine bw_cons (sw_ifV (tv_lt (ev_name 1) (ev_len T.b.b_len (ev_name 0) (.inl hs))) (fun hd H1 e1 => ?_) (fun hd H1 e1 => bw_nil ?_))
  · have hd := of_decide_eq_true hd
    rw [List.length_map] at hd
    have hkn : k < ns.length := by omega
    exact bw_one (sw_ret (EVgo (ev_ixLn (v := .int ns[k]) k (ev_name 0) (ev_name 1) (Evl.ex_l e1 hs) (by rw [List.getElem?_map, List.getElem?_eq_getElem hkn]; rfl)) fun H2 e2 => q _ _ (e1.trans e2)))
  · refine bw_cons (sw_set 2 (EVgo (ev_add ev_int (ev_mul (ev_mul ev_int (ev_name 1) (.inl ⟨by decide, by decide⟩)) (ev_name 1) (cmulR (by omega)))) fun H2 e2 => ?_))
    refine bw_cons (sw_ifV (tv_gt (ev_len T.b.b_len (ev_name 0) (.inl (Evl.ex_l (e1.trans e2) hs))) ev_int) (fun hd H3 e3 => ?_) fun _ H3 e3 => bw_nil (bw_one (sw_ret (EVgo (ev_name 2) fun H4 e4 => q _ _ ((e1.trans e2).trans (e3.trans e4))))))
    have hd := of_decide_eq_true hd
    rw [List.length_map] at hd
    have hkn : 0 < ns.length := by omega
    refine bw_one (sw_set 2 (EVgo (ev_add (ev_name 2) (ev_mul (ev_mod (ev_ixLn (v := .int ns[0]) 0 (ev_name 0) ev_int (Evl.ex_l ((e1.trans e2).trans e3) hs) (by rw [List.getElem?_map, List.getElem?_eq_getElem hkn]; rfl)) ev_int (by decide)) (ev_add (ev_mul ev_int (ev_name 1) (.inl ⟨by decide, by decide⟩)) ev_int) (cmulR (by omega)))) fun H4 e4 => ?_))
    exact bw_one (sw_ret (EVgo (ev_name 2) fun H5 e5 => q _ _ (((e1.trans e2).trans (e3.trans e4)).trans e5)))
def spDraws (K : PySem.W.Frag) : Sp := fun vs H Q _ => ∃ (p : Addr) (ns : List Int), vs = [.ref p, .int 0, .int 360] ∧ SqL K H p (ns.map V.int) ∧ ∀ (da : Addr) H', Ex H H' → H da = none → DrAt H' da → Q (.ref da) H'
/-! _law_draws: slots 0 _law_script, 1 _law_at, 2 _law_many, 3 _law_found, 4 _law_left, 5 _law_k, 6 _law_draw -/
theorem sc_law_draws : FnScope ["_law_script", "_law_at", "_law_many", "_law_found", "_law_left", "_law_k", "_law_draw"] ["_law_script", "_law_at", "_law_many"] (defScope s_law_draws) := ⟨rfl, rfl, rfl, by decide +kernel, rfl, by decide +kernel, by decide +kernel⟩
theorem ok_law_draws (T : Tops K mg CR CW CN CH) (hce : Has P w K mg base 1 "_law_cell" ["_law_script", "_law_k"] (spCe K)) : Has P w K mg base 2 "_law_draws" ["_law_script", "_law_at", "_law_many"] (spDraws K) := by
  refine has_of (k := 1) T.law_draws sc_law_draws (fun _ _ _ _ _ _ us hl => match us, hl with | [_, _, _], _ => rfl) (fun vs H Q E h => by
    obtain ⟨p, ns, rfl, _⟩ := h
    rfl) ?_
  intro f cdv A outer s H0 H vs Q E E0 hr h
  obtain ⟨p, ns, rfl, hs, q⟩ := h
  have nd := (sc_law_draws).nd
  refine bw_cons (sw_set 3 (ew_lst (aw_nil ⟨by show 0 ≤ sizeLine; exact Nat.zero_le _, fun da nda => ?_⟩)))
  have e1 : Ex H (upd H da (.lst [])) := Ex.new nda
  have h1 : (upd H da (.lst [])) da = some (.lst []) := upd_same
  generalize upd H da (.lst []) = H1 at e1 h1
  refine bw_cons (sw_set 4 (ew_B (call_max2 rfl) T.b.b_max (aw_cons (EVgo ev_int fun H2 e2 => aw_cons (ew_call hce hr (AVgo (av_cons (ev_name 0) (av_cons (ev_name 1) av_nil)) fun H3 e3 => ⟨p, ns, 0, rfl, Evl.ex_l (((e1.trans e2).trans e3)) hs, by omega, fun v H4 e4 => aw_nil ⟨0, v, rfl, ?_⟩⟩)))) (by decide +kernel)))
  have x4 := (e2.trans e3).trans e4
  generalize hlf : (if v > 0 then v else 0) = lf
  have hlf0 : 0 ≤ lf := by
    rw [← hlf]
    by_cases c : v > 0
    · rw [if_pos c]; omega
    · rw [if_neg c]; exact Int.le_refl _
  refine bw_cons (sw_ifV (tv_ge (ev_name 4) (ev_pow ev_int ev_int ⟨by decide, by decide, by decide⟩)) (fun hd H5 e5 => ?_) (fun hd H5 e5 => bw_nil ?_))
  · refine bw_cons (sw_forR1 PassesOwn.never T.b.b_range (n := 360) (ev_name 2) (by omega) (fun i σ' H' => ∃ (l : Int) (z5 : Option V) (ds : List Nat), σ' = [some (.ref p), some (.int 0), some (.int 360), some (.ref da), some (.int l), z5, none] ∧ H' da = some (.lst (ds.map iV)) ∧ ds.length = i ∧ Ex H H') (fun H6 e6 => ⟨lf, none, [], rfl, e6 _ _ (e5 _ _ (x4 _ _ h1)), rfl, ((e1.trans x4).trans e5).trans e6⟩) ?_ ?_)
    · rintro i σ' H' hi ⟨l, z5, ds, rfl, hd', hl, e6⟩
      refine gw_name 5 ?_
      refine bw_cons (sw_expr (ew_append (ev_name 3) ⟨_, hd'⟩ fun H7 e7 => EVgo (ev_mod (ev_name 4) ev_int (by decide)) fun H8 e8 => ⟨_, e8 _ _ (e7 _ _ hd'), by rw [List.length_map]; exact Evl.sz_lt (by omega), ?_⟩))
      refine bw_one (sw_set 4 (EVgo (ev_fdiv (ev_name 4) ev_int ⟨by decide, by decide⟩) fun H9 e9 => ⟨_, _, ds ++ [(l % 10000).toNat], rfl, ?_, by rw [List.length_append, hl]; rfl, (Ex.mut (e6.trans (e7.trans e8)) nda).trans e9⟩))
      refine e9 _ _ ?_
      rw [upd_same, List.map_append, List.map_cons, List.map_nil]
      congr 4
      show V.int (l % 10000) = V.int (((l % 10000).toNat : Nat) : Int)
      congr 1
      omega
    · rintro σ' H' ⟨l, z5, ds, rfl, hd', hl, e6⟩
      refine bw_cons (sw_if (tw_eqI (ew_B (cr_sum rfl) T.b.b_sum (aw_cons (ew_from (k := 180) (ev_name 3) hd' (ev_is (w := .int ((180 : Nat) : Int)) (ev_fdiv (ev_name 2) ev_int ⟨by decide, by decide⟩) rfl) (by rw [List.length_map]; omega) fun sp H7 e7 nsp hsp => aw_nil ⟨sp, (ds.drop 180).map fun x : Nat => (x : Int), rfl, .inl (.inl (by rw [hsp, ← List.map_drop, iV_map])), _, rfl, EVgo ev_int fun H8 e8 => ⟨0, rfl, ?_⟩⟩)) (by decide +kernel))))
      have h8 := e8 _ _ (e7 _ _ hd')
      have x8 := e6.trans (e7.trans e8)
      refine ite2 (fun _ => ?_) fun _ => ?_
      · refine bw_one (sw_expr (ew_reverse (ev_name 3) h8 fun H9 e9 => ?_))
        refine bw_one (sw_ret (EVgo (ev_name 3) fun Ha ea => q da _ ((Ex.mut (x8.trans e9) nda).trans ea) nda ⟨ds.reverse, by rw [List.length_reverse]; omega, ea _ _ (by rw [upd_same, List.map_reverse])⟩))
      · exact bw_nil (bw_one (sw_ret (EVgo (ev_name 3) fun Ha ea => q da _ (x8.trans ea) nda ⟨ds, by omega, ea _ _ h8⟩)))
  · refine bw_cons (sw_set 6 (EVgo (ev_mod (ev_mul (ev_mod (ev_name 4) ev_int (by decide)) ev_int (cmulR (by decide))) ev_int (by decide)) fun H6 e6 => ?_))
    refine bw_cons (sw_forR1 PassesOwn.never T.b.b_range (n := 360) (ev_name 2) (by omega) (fun i σ' H' => ∃ (d : Int) (z5 : Option V) (ds : List Nat), σ' = [some (.ref p), some (.int 0), some (.int 360), some (.ref da), some (.int lf), z5, some (.int d)] ∧ H' da = some (.lst (ds.map iV)) ∧ ds.length = i ∧ Ex H H') (fun H7 e7 => ⟨_, none, [], rfl, e7 _ _ (e6 _ _ (e5 _ _ (x4 _ _ h1))), rfl, (((e1.trans x4).trans e5).trans e6).trans e7⟩) ?_ ?_)
    · rintro i σ' H' hi ⟨d, z5, ds, rfl, hd', hl, e7⟩
      refine gw_name 5 ?_
      refine bw_cons (sw_set 6 (ew_modI (ew_addI (ew_addI (ew_addI (EVgo (ev_mul (ev_name 6) ev_int (cmulR (by decide))) fun H8 e8 => ⟨_, rfl, ew_call hce hr (AVgo (av_cons (ev_name 0) (av_cons (ev_is (w := .int ((1 + i % 30 : Nat) : Int)) (ev_add (ev_add (ev_name 1) ev_int) (ev_mod (ev_name 5) ev_int (by decide))) (by first | rfl | (congr 1; omega))) av_nil)) fun H9 e9 => ⟨p, ns, 1 + i % 30, rfl, Evl.ex_l ((e7.trans e8).trans e9) hs, by omega, fun v2 Ha ea => ⟨_, rfl, _, rfl, EVgo (ev_mul (ev_name 5) (ev_name 5) (cmulR (by omega))) fun Hb eb => ⟨_, rfl, _, rfl, EVgo ev_int fun Hc ec => ⟨_, rfl, _, rfl, EVgo ev_int fun Hd ed => ⟨_, rfl, by decide, ?_⟩⟩⟩⟩⟩)⟩))))))
      have x := ((e8.trans e9).trans (ea.trans eb)).trans (ec.trans ed)
      generalize (d * 48271 + v2 + (i : Int) * (i : Int) + 7) % 2147483629 = d2
      refine bw_one (sw_expr (ew_append (ev_name 3) ⟨_, x _ _ hd'⟩ fun He ee => EVgo (ev_fdiv (ev_mod (ev_add (ev_mul (ev_name 6) ev_int (cmulR (by decide))) (ev_mul ev_int (ev_name 5) (.inl ⟨by decide, by decide⟩))) ev_int (by decide)) ev_int ⟨by decide, by decide⟩) fun Hf ef => ⟨_, ef _ _ (ee _ _ (x _ _ hd')), by rw [List.length_map]; exact Evl.sz_lt (by omega), d2, _, ds ++ [((d2 * 39373 + 11 * (i : Int)) % 2147483647 / 16).toNat], rfl, ?_, by rw [List.length_append, hl]; rfl, Ex.mut ((e7.trans x).trans (ee.trans ef)) nda⟩))
      rw [upd_same, List.map_append, List.map_cons, List.map_nil]
      congr 4
      show V.int ((d2 * 39373 + 11 * (i : Int)) % 2147483647 / 16) = V.int ((((d2 * 39373 + 11 * (i : Int)) % 2147483647 / 16).toNat : Nat) : Int)
      congr 1
      omega
    · rintro σ' H' ⟨d, z5, ds, rfl, hd', hl, e7⟩
      exact bw_one (sw_ret (EVgo (ev_name 3) fun H8 e8 => q da _ (e7.trans e8) nda ⟨ds, by omega, e8 _ _ hd'⟩))
/-- a number drawn -/
def spNext : Sp := fun vs H Q _ => ∃ da, vs = [.ref da] ∧ DrAt H da ∧ ∀ (v : Nat) H', DrAt H' da → Km [da] H H' → Q (iV v) H'
/-! _law_next: slots 0 _law_draws_here -/
theorem sc_law_next : FnScope ["_law_draws_here"] ["_law_draws_here"] (defScope s_law_next) := ⟨rfl, rfl, rfl, by decide +kernel, rfl, by decide +kernel, by decide +kernel⟩
theorem ok_law_next (T : Tops K mg CR CW CN CH) : Has P w K mg base 1 "_law_next" ["_law_draws_here"] spNext := by
  refine has_of (k := 0) T.law_next sc_law_next (fun _ _ _ _ _ _ us hl => match us, hl with | [_], _ => rfl) (fun vs H Q E h => by
    obtain ⟨da, rfl, _⟩ := h
    rfl) ?_
  intro f cdv A outer s H0 H vs Q E E0 hr h
  obtain ⟨da, rfl, ⟨ds, hl, hd⟩, q⟩ := h
  have nd := (sc_law_next).nd
  refine bw_cons (sw_ifV (tv_gt (ev_len T.b.b_len (ev_name 0) (.inl (.inl (.inl hd)))) ev_int) (fun h0 H1 e1 => ?_) (fun _ H1 e1 => bw_nil (bw_one (sw_ret (EVgo ev_int fun H2 e2 => q 0 _ ⟨ds, hl, e2 _ _ (e1 _ _ hd)⟩ (Km.of (e1.trans e2)))))))
  have h0 := of_decide_eq_true h0
  rw [List.length_map] at h0
  have hlt : ds.length - 1 < ds.length := by omega
  refine bw_one (sw_ret (ew_pop (y := iV ds[ds.length - 1]) (ev_name 0) (e1 _ _ hd) (by rw [List.length_map, List.getElem?_map, List.getElem?_eq_getElem hlt]; rfl) fun H2 e2 => q _ _ ⟨ds.dropLast, by rw [List.length_dropLast]; omega, by rw [upd_same, dropLast_iV]⟩ ((Km.of (e1.trans e2)).upd (by simp))))
theorem ew_next {X : Cx} {σ : L2.St} {H : Hp} {pos p : Pos} {e : Expr} {k j : Nat} {Q : VK} {da : Addr} (hn : Has X.prog X.w X.K X.mg X.base k "_law_next" ["_law_draws_here"] spNext) (hr : Room j X.A) (he : EV X e σ H (.ref da)) (hd : DrAt H da) (q : ∀ (v : Nat) H', DrAt H' da → Km [da] H H' → Q (iV v) H') (hk : k ≤ j := by decide) (hg : Gl X "_law_next" := by rfl)
    (hs : starEach [e] X.env = (false, eval e X.env) :: starEach [] X.env := by rfl) : EW X (.Call (.Name "_law_next" p) [e] [] pos) σ H Q :=
  ew_call hn hr (AVgo (av_cons he av_nil hs) fun H1 e1 => ⟨da, rfl, hd.mono e1, fun v H2 d2 k2 => q v H2 d2 ((Km.of e1).trans k2)⟩) hk hg (by decide) hs
/-- a weight -/
def Gw (m : Nat) : Prop := m ≤ 1000000000000 ∨ ∃ k, k ≤ 16 ∧ m = 1000000000000 * 55440 / 2 ^ k
theorem Gw.half {m : Nat} (h : Gw m) : Gw (m / 2) := by
  rcases h with h | ⟨k, hk, rfl⟩
  · exact .inl (by omega)
  · by_cases c : k = 16
    · subst c
      exact .inl (by decide)
    · exact .inr ⟨k + 1, by omega, by rw [Nat.div_div_eq_div_mul, Nat.pow_succ]⟩
theorem Gw.le {m : Nat} (h : Gw m) : loA m ≤ 1000000000000 := by
  rcases h with h | ⟨k, hk, rfl⟩
  · exact Nat.le_trans (loA_le m) h
  · have all : ∀ k, k < 17 → loA (1000000000000 * 55440 / 2 ^ k) ≤ 1000000000000 := by decide +kernel
    exact all k (by omega)
theorem gwA : Gw 55440000000000000 := .inr ⟨0, by omega, by decide +kernel⟩
theorem gwB : Gw 999999999989 := .inl (Nat.le_of_ble_eq_true rfl)
theorem gwS {m : Nat} (h : Nat.ble m 1000000000000 = true) : Gw m := .inl (Nat.le_of_ble_eq_true h)
/-- a value that is a weight -/
def WtV (K : PySem.W.Frag) (v : V) (H : Hp) : Prop := ∃ m, Amt K H v m ∧ Gw m
theorem WtV.kt {K : PySem.W.Frag} {v : V} {H1 H2 : Hp} (h : WtV K v H1) (k : Kt H1 H2) : WtV K v H2 := let ⟨m, a, g⟩ := h; ⟨m, a.kt k, g⟩
theorem ex_wt {X : Cx} {σ : L2.St} {H : Hp} {k j1 j2 : Nat} {pos p1 p2 : Pos} {a b : Int} (m : Nat) (g : Gw m) (h : (decide (a = (loA m : Nat)) && decide (b = (loB m : Nat))) = true := by decide +kernel) : EX (EW X (.Tuple [.Constant (.int a) j1 p1, .Constant (.int b) j2 p2] k pos)) σ H (WtV X.K) := fun H1 e1 Q q => by
  simp only [Bool.and_eq_true, decide_eq_true_eq] at h
  refine EUgo (evu_tup (av_cons ev_int (av_cons ev_int av_nil))) fun p H2 np e2 hp => q _ H2 e2 ⟨m, ⟨p, rfl, .inl ?_⟩, g⟩
  rw [hp, h.1, h.2]
/-- one of some -/
theorem ew_pick {X : Cx} {σ : L2.St} {H : Hp} {pos p2 : Pos} {es : List Expr} {b : Expr} {Q : VK} {R : V → Hp → Prop} (j : Nat) (hR : ∀ y H1 H2, R y H1 → Ex H1 H2 → R y H2) (t : ExsE X σ H R es) (hl : es.length < 100) (hb : EV X b σ H (.int (j : Int))) (hj : j < es.length) (q : ∀ v H1, Ex H H1 → R v H1 → Q v H1) (hs : PlainIx b := by exact fun _ _ => rfl) : EW X (.Subscript (.List es p2) b pos) σ H Q :=
  ew_ixLI (ew_lst (aw_exs hR t (Ex.refl H) fun ys H1 e1 hl2 hall => ⟨by rw [hl2]; exact Evl.sz_of (by omega), fun c nc => ⟨c, rfl, EVgo (te := EW X b) (Evl.Ev.mono (e1.trans (Ex.new nc)) hb) fun H2 e2 => by
    have hj2 : j < ys.length := by omega
    exact ⟨ys, j, ys[j], rfl, .inl (.inl (e2 _ _ upd_same)), List.getElem?_eq_getElem hj2, q _ _ (e1.trans ((Ex.new nc).trans e2)) (hR _ _ _ (hall _ (List.getElem_mem hj2)) ((Ex.new nc).trans e2))⟩⟩⟩)) hs
def spWeight (K : PySem.W.Frag) : Sp := fun vs H Q _ => ∃ da, vs = [.ref da] ∧ DrAt H da ∧ ∀ v H', DrAt H' da → Km [da] H H' → WtV K v H' → Q v H'
/-! _law_weight: slots 0 _law_draws_here, 1 _law_draw -/
theorem sc_law_weight : FnScope ["_law_draws_here", "_law_draw"] ["_law_draws_here"] (defScope s_law_weight) := ⟨rfl, rfl, rfl, by decide +kernel, rfl, by decide +kernel, by decide +kernel⟩
theorem ok_law_weight (T : Tops K mg CR CW CN CH) (hn : Has P w K mg base 1 "_law_next" ["_law_draws_here"] spNext) : Has P w K mg base 2 "_law_weight" ["_law_draws_here"] (spWeight K) := by
  refine has_of (k := 1) T.law_weight sc_law_weight (fun _ _ _ _ _ _ us hl => match us, hl with | [_], _ => rfl) (fun vs H Q E h => by
    obtain ⟨da, rfl, _⟩ := h
    rfl) ?_
  intro f cdv A outer s H0 H vs Q E E0 hr h
  obtain ⟨da, rfl, hd, q⟩ := h
  have nd := (sc_law_weight).nd
  refine bw_cons (sw_set 1 (ew_next hn hr (ev_name 0) hd fun d H1 d1 k1 => ?_))
  refine bw_cons (sw_ifV (tv_eq (ev_mod (ev_name 1) ev_int (by decide)) ev_int) (fun _ H2 e2 => ?_) (fun _ H2 e2 => bw_nil ?_))
  · refine bw_one ?_
    refine sw_ret ?_
    with_reducible refine ew_pick (R := WtV K) (d / 30 % 4) (fun y H1 H2 h e => h.kt (Kt.of e)) ?t ?l ?b ?j ?q ?hs
    case t => exact .cons star_tup (ex_wt 55440000000000000 gwA) (.cons star_tup (ex_wt 1 (gwS rfl)) (.cons star_tup (ex_wt 999999999989 gwB) (.cons star_tup (ex_wt 39600 (gwS rfl)) .nil)))
    case l => exact Nat.le_of_ble_eq_true rfl
    case b => exact ev_is (w := .int ((d / 30 % 4 : Nat) : Int)) (ev_mod (ev_fdiv (ev_name 1) ev_int ⟨by decide, by decide⟩) ev_int (by decide)) (by first | rfl | (congr 1; omega))
    case j => show d / 30 % 4 < 4; omega
    case q => exact fun v H3 e3 hw => q v H3 ((d1.mono e2).mono e3) (k1.trans (Km.of (e2.trans e3))) hw
    case hs => exact fun _ _ => rfl
  · refine bw_one ?_
    refine sw_ret ?_
    with_reducible refine ew_pick (R := WtV K) (d / 30 % 8) (fun y H1 H2 h e => h.kt (Kt.of e)) ?t ?l ?b ?j ?q ?hs
    case t => exact .cons star_tup (ex_wt 55440 (gwS rfl)) (.cons star_tup (ex_wt 55440 (gwS rfl)) (.cons star_tup (ex_wt 110880 (gwS rfl)) (.cons star_tup (ex_wt 27720 (gwS rfl)) (.cons star_tup (ex_wt 41580 (gwS rfl)) (.cons star_tup (ex_wt 0 (gwS rfl)) (.cons star_tup (ex_wt 55440 (gwS rfl)) (.cons star_tup (ex_wt 166320 (gwS rfl)) .nil)))))))
    case l => exact Nat.le_of_ble_eq_true rfl
    case b => exact ev_is (w := .int ((d / 30 % 8 : Nat) : Int)) (ev_mod (ev_fdiv (ev_name 1) ev_int ⟨by decide, by decide⟩) ev_int (by decide)) (by first | rfl | (congr 1; omega))
    case j => show d / 30 % 8 < 8; omega
    case q => exact fun v H3 e3 hw => q v H3 ((d1.mono e2).mono e3) (k1.trans (Km.of (e2.trans e3))) hw
    case hs => exact fun _ _ => rfl
/-- a new list of all places, in some order -/
def spOrder : Sp := fun vs H Q _ => ∃ (da : Addr) (n : Nat), vs = [.ref da, .int (n : Int)] ∧ DrAt H da ∧ n ≤ 7 ∧ ∀ (oa : Addr) (os : List Nat) H', DrAt H' da → Km [da] H H' → H oa = none → H' oa = some (.lst (os.map iV)) → os.Perm (List.range n) → Q (.ref oa) H'
theorem eraseIdx_perm {α : Type} : ∀ {l : List α} {k : Nat} {x : α}, l[k]? = some x → l.Perm (x :: l.eraseIdx k)
  | [], _, _, h => by simp at h
  | a :: l, 0, x, h => by
    cases h
    exact List.Perm.refl _
  | a :: l, k + 1, x, h => ((eraseIdx_perm (l := l) (k := k) h).cons a).trans (List.Perm.swap x a _)
theorem eraseIdx_iV : ∀ {l : List Nat} {k : Nat}, (l.map iV).eraseIdx k = (l.eraseIdx k).map iV
  | [], _ => rfl
  | a :: l, 0 => rfl
  | a :: l, k + 1 => by
    show iV a :: (l.map iV).eraseIdx k = iV a :: (l.eraseIdx k).map iV
    rw [eraseIdx_iV]
/-! _law_order: slots 0 _law_draws_here, 1 _law_many, 2 _law_left, 3 _law_turn -/
theorem sc_law_order : FnScope ["_law_draws_here", "_law_many", "_law_left", "_law_turn"] ["_law_draws_here", "_law_many"] (defScope s_law_order) := ⟨rfl, rfl, rfl, by decide +kernel, rfl, by decide +kernel, by decide +kernel⟩
theorem ok_law_order (T : Tops K mg CR CW CN CH) (hn : Has P w K mg base 1 "_law_next" ["_law_draws_here"] spNext) : Has P w K mg base 2 "_law_order" ["_law_draws_here", "_law_many"] spOrder := by
  refine has_of (k := 1) T.law_order sc_law_order (fun _ _ _ _ _ _ us hl => match us, hl with | [_, _], _ => rfl) (fun vs H Q E h => by
    obtain ⟨da, n, rfl, _⟩ := h
    rfl) ?_
  intro f cdv A outer s H0 H vs Q E E0 hr h
  obtain ⟨da, n, rfl, hd, hn7, q⟩ := h
  have nd := (sc_law_order).nd
  have nda : ∃ xs, H da = some (.lst xs) := let ⟨ds, _, h⟩ := hd; ⟨_, h⟩
  refine bw_cons (sw_set 2 (ew_listRange T.b.b_list T.b.b_range (n := n) (ev_name 1) (by omega) fun la H1 e1 nla hla => ?_))
  refine bw_one (sw_ret (ew_lc (own := [("_law_turn", 3)]) (lcR T.b.b_range (n := n) (ev_name 1) (by omega) (fun D i H' => H1 D = none ∧ D ≠ la ∧ ∃ done left : List Nat, H' D = some (.lst (done.map iV)) ∧ H' la = some (.lst (left.map iV)) ∧ (done ++ left).Perm (List.range n) ∧ done.length = i ∧ DrAt H' da ∧ Km [da, la] H1 H') (fun D H2 e2 hD => ?_) (fun D i H' hi hPv => ?_) (fun D H' hPv => ?_))))
  · have nD1 : H1 D = none := Evl.fresh_back e2 hD
    have nDl : D ≠ la := fun z => by
      rw [z, hla] at nD1
      cases nD1
    exact ⟨nD1, nDl, [], List.range n, upd_same, by rw [upd_ne (Ne.symm nDl)]; exact e2 _ _ hla, List.Perm.refl _, rfl, ((hd.mono e1).mono e2).mono (Ex.new hD), Km.of (e2.trans (Ex.new hD))⟩
  · obtain ⟨nD1, nDl, done, left, h1, h2, hp, hl, hd', hk⟩ := hPv
    have nld : la ≠ da := fun z => by
      obtain ⟨xs, hx⟩ := nda
      rw [z, hx] at nla
      cases nla
    have nDd : D ≠ da := fun z => by
      obtain ⟨xs, hx⟩ := nda
      rw [z, e1 _ _ hx] at nD1
      cases nD1
    intro s0 H0' C cl fp
    refine gw_name 3 ⟨rfl, yes_of fun s0 H0 C cl fp => ?_⟩
    have hlen := hp.length_eq
    rw [List.length_append, List.length_range] at hlen
    refine ew_popAt (ev_name 2) ⟨_, h2⟩ fun H3 e3 => ew_modI (ew_next hn hr (ev_name 0) (hd'.mono e3) fun v H4 d4 k4 => ⟨_, rfl, EVgo (ev_len T.b.b_len (ev_name 2) (.inl (.inl (.inl (k4 _ _ (e3 _ _ h2) (by simp [nld])))))) fun H5 e5 => ⟨_, rfl, by rw [List.length_map]; omega, ?_⟩⟩)
    rw [List.length_map]
    have hlt : v % left.length < left.length := Nat.mod_lt _ (by omega)
    have h25 : H5 la = some (.lst (left.map iV)) := e5 _ _ (k4 _ _ (e3 _ _ h2) (by simp [nld]))
    have h15 : H5 D = some (.lst (done.map iV)) := e5 _ _ (k4 _ _ (e3 _ _ h1) (by simp [nDd]))
    have hg : left[v % left.length]? = some left[v % left.length] := List.getElem?_eq_getElem hlt
    refine ⟨_, v % left.length, iV left[v % left.length], by congr 1, by omega, h25, by rw [List.getElem?_map, hg]; rfl, done.map iV, by rw [upd_ne nDl]; exact h15, by rw [List.length_map]; exact Evl.sz_lt (by omega), nD1, nDl, done ++ [left[v % left.length]], left.eraseIdx (v % left.length), by rw [upd_same, List.map_append]; rfl, ?_, ?_, by rw [List.length_append, hl]; rfl, ?_, ?_⟩
    · rw [upd_ne (Ne.symm nDl), upd_same, eraseIdx_iV]
    · refine List.Perm.trans ?_ hp
      rw [List.append_assoc]
      exact List.Perm.append_left _ (eraseIdx_perm hg).symm
    · obtain ⟨ds, a1, a2⟩ := d4
      exact ⟨ds, a1, by rw [upd_ne (Ne.symm nDd), upd_ne (Ne.symm nld)]; exact e5 _ _ a2⟩
    · intro b o hb hbn
      have hbD : b ≠ D := fun z => by
        rw [z, nD1] at hb
        cases hb
      have hbl : b ≠ la := fun z => hbn (by simp [z])
      have hbd : b ≠ da := fun z => hbn (by simp [z])
      rw [upd_ne hbD, upd_ne hbl]
      exact e5 _ _ (k4 _ _ (e3 _ _ (hk b o hb hbn)) (by simp [hbd]))
  · obtain ⟨nD1, nDl, done, left, h1, h2, hp, hl, hd', hk⟩ := hPv
    have hlen := hp.length_eq
    rw [List.length_append, List.length_range] at hlen
    have : left = [] := List.length_eq_zero_iff.mp (by omega)
    subst this
    rw [List.append_nil] at hp
    refine q D done H' hd' (fun b o hb hbn => hk b o (e1 _ _ hb) fun z => ?_) (Evl.fresh_back e1 nD1) h1 hp
    rcases List.mem_cons.mp z with z | z
    · exact hbn (by simp [z])
    · rw [List.mem_singleton.mp z, nla] at hb
      cases hb
end
end Cut


namespace Cut
open PySem PySem.Spec PyProof.Rows L2 Evl TS
/-! ### sorted(rows): tuples (i, j, (a, b)), no two with the same i, j -/
/-- a row as it stands -/
def RowV (h : Heap) (v : Value) (i j : Int) : Prop := ∃ a t u c p q t' u', v = .ref a ∧ IsTup h a #[.int i t, .int j u, .ref c] ∧ IsTup h c #[.int p t', .int q u']
def RowsV (h : Heap) (vs : List Value) : Prop := (∀ v ∈ vs, ∃ i j, RowV h v i j ∧ (0 ≤ i ∧ i < 64) ∧ (0 ≤ j ∧ j < 64)) ∧ ∀ v ∈ vs, ∀ v' ∈ vs, ∀ i j, RowV h v i j → RowV h v' i j → v = v'
theorem isTup_inj {h : Heap} {a : Addr} {xs ys : Array Value} (x : IsTup h a xs) (y : IsTup h a ys) : xs = ys := by
  obtain ⟨o, h1, _, n, h2⟩ := x
  obtain ⟨o', h3, _, n', h4⟩ := y
  rw [h1] at h3
  cases h3
  rw [h2] at h4
  injection h4
theorem RowV.inj {h : Heap} {v : Value} {i j i' j' : Int} (x : RowV h v i j) (y : RowV h v i' j') : i = i' ∧ j = j' := by
  obtain ⟨a, t, u, c, p, q, t1, u1, rfl, h1, _⟩ := x
  obtain ⟨a', t', u', c', p', q', t2, u2, e, h2, _⟩ := y
  cases e
  have := isTup_inj h1 h2
  simp only [Array.mk.injEq, List.cons.injEq, Value.int.injEq] at this
  exact ⟨this.1.1, this.2.1.1⟩
theorem RowV.keeps {h h' : Heap} {v : Value} {i j : Int} (x : RowV h v i j) (k : ∀ b o, h.get? b = some o → o.cls = .type "tuple" → h'.get? b = some o) : RowV h' v i j := by
  obtain ⟨a, t, u, c, p, q, t1, u1, rfl, ⟨o1, g1, g2, g3⟩, ⟨o2, g4, g5, g6⟩⟩ := x
  exact ⟨a, t, u, c, p, q, t1, u1, rfl, ⟨o1, k _ _ g1 g2, g2, g3⟩, ⟨o2, k _ _ g4 g5, g5, g6⟩⟩
/-- .. back, where the row stood before -/
theorem RowsV.keeps {h h' : Heap} {vs : List Value} (x : RowsV h vs) (k : ∀ b o, h.get? b = some o → o.cls = .type "tuple" → h'.get? b = some o) : RowsV h' vs := by
  refine ⟨fun v hv => ?_, fun v hv v' hv' i j r r' => ?_⟩
  · obtain ⟨i, j, r, b⟩ := x.1 v hv
    exact ⟨i, j, r.keeps k, b⟩
  · obtain ⟨i1, j1, r1, _⟩ := x.1 v hv
    obtain ⟨i2, j2, r2, _⟩ := x.1 v' hv'
    obtain ⟨rfl, rfl⟩ := (r1.keeps k).inj r
    obtain ⟨rfl, rfl⟩ := (r2.keeps k).inj r'
    exact x.2 v hv v' hv' _ _ r1 r2
theorem firsts_rows {h : Heap} : ∀ vs : List Value, (∀ v ∈ vs, ∃ i j, RowV h v i j) → ∃ fs, PySem.W.KatTups h vs fs ∧ fs.length = vs.length ∧ ∀ f, f ∈ fs → ∃ n t, f = Value.int n t
  | [], _ => ⟨[], PySem.W.KatTups.nil, rfl, fun f hf => by simp at hf⟩
  | v :: vs, x => by
    obtain ⟨fs, k, hl, hi⟩ := firsts_rows vs fun u hu => x u (List.mem_cons_of_mem _ hu)
    obtain ⟨i, j, a, t, u, c, p, q, t1, u1, rfl, ⟨o, ho, hc, n, hdt⟩, _⟩ := x v List.mem_cons_self
    refine ⟨.int i t :: fs, PySem.W.KatTups.cons ho hc hdt rfl k, by simp [hl], fun f hf => ?_⟩
    rcases List.mem_cons.mp hf with rfl | hf
    · exact ⟨i, t, rfl⟩
    · exact hi f hf
section
variable {prog : Program} {w : World} {A : Around} {E : Value → Shared → Prop} {s : Shared}
theorem kind_rows {vs : List Value} (hu : A.units < cLine) (h2 : 2 ≤ vs.length) (x : RowsV s.heap vs) (r : Value → Int) (hr : ∀ v, v ∈ vs → ∀ i j, RowV s.heap v i j → r v = i * 64 + j) (Q : SortKind → Shared → Prop)
    (h : ∀ κ, Cmp prog w A s κ (pairsOf vs) r → Q κ s) : wpAny (model prog w) A (keyKind' vs.toArray) Q E s := by
  obtain ⟨fs, k, hl, hi⟩ := firsts_rows vs fun v hv => let ⟨i, j, r, _⟩ := x.1 v hv; ⟨i, j, r⟩
  refine PySem.W.kat_kind (T := Value.type "int") k (by omega) (fun f hf => ?_) rfl (h _ ?_)
  · obtain ⟨n, t, rfl⟩ := hi f hf
    exact PySem.W.Looks.of_pure rfl
  · intro p q hp hq Q' E' hQ
    rw [pairsOf_toList] at hp hq
    have mp := (mem_zip_self hp).2
    have mq := (mem_zip_self hq).2
    obtain ⟨i, j, rp, bi, bj⟩ := x.1 _ mp
    obtain ⟨i', j', rq, bi', bj'⟩ := x.1 _ mq
    have ep := hr _ mp _ _ rp
    have eq2 := hr _ mq _ _ rq
    rw [ep, eq2] at hQ
    have same := x.2 _ mp _ mq
    obtain ⟨a, t, u, c, x1, x2, t1, u1, e1, ⟨o, ho, hc, n, hdt⟩, hcc⟩ := id rp
    obtain ⟨a', t', u', c', y1, y2, t2, u2, e2, ⟨o', ho', hc', n', hdt'⟩, hcc'⟩ := id rq
    rw [e1, e2]
    refine PySem.W.kat_lt ho hdt ho' hdt' ?_
    show PySem.W.KatLex prog w A _ (decide (3 < 3)) Q' [(Value.int i t, Value.int i' t'), (Value.int j u, Value.int j' u'), (Value.ref c, Value.ref c')] 0 s
    have d3 : decide (3 < 3) = false := by decide
    rw [d3]
    refine PySem.W.kat_cons (wpAny_eqBool_int ?_)
    by_cases c1 : i = i'
    · subst c1
      rw [beq_self_eq_true]
      refine PySem.W.kat_yes (PySem.W.kat_cons (wpAny_eqBool_int ?_))
      by_cases c2 : j = j'
      · subst c2
        rw [beq_self_eq_true]
        have sm := same i j rp rq
        rw [e1, e2] at sm
        cases sm
        have hcc2 := isTup_inj ⟨o, ho, hc, n, hdt⟩ ⟨o', ho', hc', n', hdt'⟩
        simp only [Array.mk.injEq, List.cons.injEq, Value.ref.injEq] at hcc2
        have ec : c = c' := hcc2.2.2.1
        subst ec
        have key : IsTupleKey (mixKind prog w) s.heap [(.inl x1 : L2.Key), .inl x2] c := by
          obtain ⟨o2, g1, g2, n2, g3⟩ := hcc
          exact ⟨o2, _, n2, g1, g2, g3, PySem.ItemsAre.cons (kV_is (k := (.inl x1 : L2.Key)) ⟨t1, rfl⟩) (PySem.ItemsAre.cons (kV_is (k := (.inl x2 : L2.Key)) ⟨u1, rfl⟩) PySem.ItemsAre.nil)⟩
        refine PySem.W.kat_yes (PySem.W.kat_cons (wpAny_eqBool_tuple hu key key ?_))
        rw [decide_eq_true rfl]
        refine PySem.W.kat_yes (PySem.W.kat_nil ?_)
        rw [decide_eq_false (Int.lt_irrefl _)] at hQ
        exact hQ
      · rw [show (j == j') = false from beq_eq_false_iff_ne.mpr c2]
        refine PySem.W.kat_no (oneLt_ints _ ?_)
        have : decide (i * 64 + j < i * 64 + j') = decide (j < j') := decide_eq_decide.mpr (by omega)
        rw [this] at hQ
        exact hQ
    · rw [show (i == i') = false from beq_eq_false_iff_ne.mpr c1]
      refine PySem.W.kat_no (oneLt_ints _ ?_)
      have : decide (i * 64 + j < i' * 64 + j') = decide (i < i') := decide_eq_decide.mpr (by omega)
      rw [this] at hQ
      exact hQ
def rowRk (h : Heap) (v : Value) : Int := (intsOf h v).getD 0 0 * 64 + (intsOf h v).getD 1 0
theorem RowV.rk {h : Heap} {v : Value} {i j : Int} (x : RowV h v i j) : rowRk h v = i * 64 + j := by
  obtain ⟨a, t, u, c, p, q, t1, u1, rfl, ⟨o, ho, hc, n, hd⟩, _⟩ := x
  unfold rowRk intsOf
  simp only [ho, hd]
  rfl
theorem sort_rows {a : Addr} {vs : List Value} {n : Nat} {P : PySem.Fin → Shared → Prop} (hu : A.units < cLine) (ho : s.heap.get? a = some (seqObj "list" vs.toArray n)) (h64 : vs.length < 64) (x : RowsV s.heap vs)
    (r : Value → Int) (hr : ∀ v, v ∈ vs → ∀ i j, RowV s.heap v i j → r v = i * 64 + j)
    (h : ∀ out : Array Value, out.toList.Perm vs → out.toList.Pairwise (fun u v => r u ≤ r v) → P (.done (.ret .none)) { s with heap := sortedHeap s.heap a vs out }) :
    wpAny (model prog w) A (Builtin.«list.sort» ⟨[.ref a], []⟩) P E s := by
  have keep : ∀ b o, s.heap.get? b = some o → o.cls = .type "tuple" → (midHeap s.heap a vs).get? b = some o := fun b o e hc => by
    refine midHeap_old ?_ e
    rintro rfl
    rw [ho] at e
    have e' : seqObj "list" vs.toArray n = o := Option.some.inj e
    rw [← e'] at hc
    have c' : Value.type "list" = Value.type "tuple" := hc
    injection c' with c''
    exact absurd c'' (by decide)
  refine SK.plain_sort (r := r) ho h64 (fun h2 Q hQ => ?_) fun ps out h1 h2 h3 => ?_
  · refine kind_rows (s := { s with heap := midHeap s.heap a vs }) hu h2 (x.keeps keep) r (fun v hv i j t => ?_) Q hQ
    obtain ⟨i0, j0, t0, _⟩ := x.1 v hv
    obtain ⟨rfl, rfl⟩ := (t0.keeps keep).inj t
    exact hr v hv _ _ t0
  · obtain ⟨p, o⟩ := out_rank h1 h2 h3
    exact h out p o
theorem sorted_rows {l : Addr} {vs : List Value} {Q : Value → Shared → Prop} (hu : A.units + 8 < cLine) (hl : s.heap.IsList l vs.toArray) (h64 : vs.length < 64) (x : RowsV s.heap vs)
    (h : ∀ out : Array Value, out.toList.Perm vs → out.toList.Pairwise (fun u v => rowRk s.heap u ≤ rowRk s.heap v) → Q (.ref (s.heap.objs.size + 1)) { s with heap := sortedAll s.heap vs out }) :
    wpAny (model prog w) A (call (.builtin "sorted") [.ref l]) Q E s := by
  refine Calls.call_function_entry kind_sorted plain_sorted entry_sorted (args_sorted1 _) ?_
  unfold Builtin.«sorted»
  refine wpAny_bind (m := checkCount "sorted" 1 1 _) (wpAny_pure ?_)
  refine wpAny_bind (collect_list hl ?_ (by rw [sizeLine_eq]; omega))
  refine wpAny_bind (wpAny_newList ?_ (by rw [sizeLine_eq]; omega))
  have hsz : ((s.heap.push (seqObj "list" #[] 0)).update s.heap.objs.size (Obj.mapSeq (· ++ vs.toArray))).objs.size = s.heap.objs.size + 1 := by
    rw [Heap.size_update, size_push']
  have hoL : (((s.heap.push (seqObj "list" #[] 0)).update s.heap.objs.size (Obj.mapSeq (· ++ vs.toArray))).push (seqObj "list" vs.toArray 0)).get? (s.heap.objs.size + 1) = some (seqObj "list" vs.toArray 0) := by
    rw [← hsz]; exact Heap.get?_push_size _ rfl
  have keep : ∀ b o, s.heap.get? b = some o → o.cls = .type "tuple" → (((s.heap.push (seqObj "list" #[] 0)).update s.heap.objs.size (Obj.mapSeq (· ++ vs.toArray))).push (seqObj "list" vs.toArray 0)).get? b = some o := fun b o q _ => by
    have hlt : b < s.heap.objs.size := Heap.lt_size q
    rw [Heap.get?_push_ne _ _ _ (by rw [hsz]; exact Nat.ne_of_lt (Nat.lt_succ_of_lt hlt)), Heap.get?_update_ne _ _ _ _ (Nat.ne_of_lt hlt), Heap.get?_push_ne _ _ _ (Nat.ne_of_lt hlt)]
    exact q
  show wpAny _ _ _ _ _ { s with heap := ((s.heap.push (seqObj "list" #[] 0)).update s.heap.objs.size (Obj.mapSeq (· ++ vs.toArray))).push (seqObj "list" vs.toArray 0) }
  rw [hsz]
  refine wpAny_bind (wpAny_holding (wpAny_call_entry slot_list_sort ⟨_, hoL, rfl⟩ entry_list_sort (sort_rows (by show A.units + 1 + 1 < cLine; omega) hoL h64 (x.keeps keep) (fun v => rowRk s.heap v) (fun v hv i j t => ?_) fun out a1 a2 => ⟨_, rfl, ?_⟩) (args_list_sort _)))
  · obtain ⟨i0, j0, t0, _⟩ := x.1 v hv
    obtain ⟨rfl, rfl⟩ := (t0.keeps keep).inj t
    exact t0.rk
  · exact wpAny_pure ⟨_, rfl, h out a1 a2⟩
end
section
variable {X : Cx} {pins : List (Addr × Obj)} {σ : L2.St} {H : Hp} {s : Shared}
theorem vals3 {a b c : V} {us : List Value} (r : Vals [a, b, c] us) : ∃ x y z, us = [x, y, z] ∧ RelV a x ∧ RelV b y ∧ RelV c z := by
  cases r with
  | cons r1 r =>
    cases r with
    | cons r2 r =>
      cases r with
      | cons r3 r =>
        cases r
        exact ⟨_, _, _, rfl, r1, r2, r3⟩
theorem rel_int {i : Int} {x : Value} (h : RelV (.int i) x) : ∃ t, x = .int i t := h
theorem rel_ref {p : Addr} {x : Value} (h : RelV (.ref p) x) : x = .ref p := h
theorem rowV_raw (I : Inv X pins σ H s) {t : Rw} {q : Addr} (h : RowR X.K t (.ref q) H) : RowV s.heap (.ref q) (t.1 : Int) (t.2.1 : Int) := by
  obtain ⟨q', a, e, h1, h2⟩ := h
  have e' : q = q' := V.ref.inj e
  subst e'
  obtain ⟨its, rv, hT, _⟩ := I.tuple (SqT.of h1)
  obtain ⟨its2, rv2, hT2, _⟩ := I.tuple h2.sq
  obtain ⟨x, y, z, e1, r1, r2, r3⟩ := vals3 rv
  obtain ⟨x2, y2, e2, r4, r5⟩ := vals2 rv2
  subst e1 e2
  obtain ⟨t1, e1⟩ := rel_int r1
  obtain ⟨t2, e2⟩ := rel_int r2
  have e3 := rel_ref r3
  obtain ⟨t4, e4⟩ := rel_int r4
  obtain ⟨t5, e5⟩ := rel_int r5
  subst e1 e2 e3 e4 e5
  exact ⟨q, t1, t2, a, _, _, t4, t5, rfl, hT, hT2⟩
end
section
variable {X : Cx}
def rSortRow (K : PySem.W.Frag) : List V → Hp → VK → Prop := fun vs H Q => ∃ (a : Addr) (xs : List V) (rows : List Rw), vs = [.ref a] ∧ SqL K H a xs ∧ rows.length < 64 ∧ AllR (RowR K) rows xs H ∧ (rows.map fun t => (t.1, t.2.1)).Nodup ∧ (∀ t ∈ rows, t.1 < 64 ∧ t.2.1 < 64) ∧
  ∀ (ys : List V) (rows' : List Rw) (p : Addr), rows'.Perm rows → (rows'.Pairwise fun a b => lexP (a.1, a.2.1) (b.1, b.2.1)) → AllR (RowR K) rows' ys H → H p = none → Q (.ref p) (upd H p (.lst ys))
/-- what sorting such rows leaves, whatever they stand in -/
theorem rows_pack {pins : List (Addr × Obj)} {σ : L2.St} {H : Hp} {s : Shared} (I : Inv X pins σ H s) {xs : List V} {its : List Value} {rows : List Rw} (rv : Vals xs its) (hall : AllR (RowR X.K) rows xs H) (hnd : (rows.map fun t => (t.1, t.2.1)).Nodup) (hlt : ∀ t ∈ rows, t.1 < 64 ∧ t.2.1 < 64) :
    RowsV s.heap its ∧ its.length = rows.length ∧ ∀ out : Array Value, out.toList.Perm its → out.toList.Pairwise (fun u v => rowRk s.heap u ≤ rowRk s.heap v) → (∀ u ∈ out.toList, ∃ a, u = Value.ref a) ∧
      ∃ rows' : List Rw, rows'.Perm rows ∧ (rows'.Pairwise fun a b => lexP (a.1, a.2.1) (b.1, b.2.1)) ∧ AllR (RowR X.K) rows' (out.toList.map bkV) H := by
  have hrl : xs.length = rows.length := hall.1
  have hits : xs.length = its.length := rv.length
  have href : ∀ x ∈ xs, ∃ a, x = V.ref a := fun x hx => by
    obtain ⟨t, _, q', a', e, _⟩ := allR_mem hall hx
    exact ⟨q', e⟩
  obtain ⟨e1, e2⟩ := bkV_refs rv href
  have hget : ∀ (k : Nat) (v : Value), its[k]? = some v → ∃ t, rows[k]? = some t ∧ RowR X.K t (bkV v) H := fun k v hv => by
    have hx : xs[k]? = some (bkV v) := by
      rw [e1, List.getElem?_map, hv]
      rfl
    have hk := (List.getElem?_eq_some_iff.mp hx).1
    have ht := List.getElem?_eq_getElem (show k < rows.length by omega)
    exact ⟨_, ht, hall.2 k _ _ ht hx⟩
  have hraw : ∀ (k : Nat) (v : Value), its[k]? = some v → ∃ t, rows[k]? = some t ∧ RowV s.heap v (t.1 : Int) (t.2.1 : Int) ∧ RowR X.K t (bkV v) H := fun k v hv => by
    obtain ⟨t, h1, h2⟩ := hget k v hv
    obtain ⟨b, rfl⟩ := e2 v (List.mem_of_getElem? hv)
    exact ⟨t, h1, rowV_raw I h2, h2⟩
  have hrows : RowsV s.heap its := by
    refine ⟨fun v hv => ?_, fun v hv v' hv' i j r r' => ?_⟩
    · obtain ⟨k, hk⟩ := List.mem_iff_getElem?.mp hv
      obtain ⟨t, h1, h2, _⟩ := hraw k v hk
      have := hlt t (List.mem_of_getElem? h1)
      exact ⟨_, _, h2, by omega, by omega⟩
    · obtain ⟨k, hk⟩ := List.mem_iff_getElem?.mp hv
      obtain ⟨k', hk'⟩ := List.mem_iff_getElem?.mp hv'
      obtain ⟨t, h1, h2, _⟩ := hraw k v hk
      obtain ⟨t', h1', h2', _⟩ := hraw k' v' hk'
      obtain ⟨i1, i2⟩ := h2.inj r
      obtain ⟨i3, i4⟩ := h2'.inj r'
      have hkk : k = k' := by
        refine Decidable.byContradiction fun hne => ?_
        have hp := List.pairwise_map.mp hnd
        have l1 := (List.getElem?_eq_some_iff.mp h1).1
        have l2 := (List.getElem?_eq_some_iff.mp h1').1
        have g1 := (List.getElem?_eq_some_iff.mp h1).2
        have g2 := (List.getElem?_eq_some_iff.mp h1').2
        rcases Nat.lt_or_gt_of_ne hne with c | c
        · have := List.pairwise_iff_getElem.mp hp k k' l1 l2 c
          rw [g1, g2] at this
          exact this (Prod.ext (by show t.1 = t'.1; omega) (by show t.2.1 = t'.2.1; omega))
        · have := List.pairwise_iff_getElem.mp hp k' k l2 l1 c
          rw [g1, g2] at this
          exact this (Prod.ext (by show t'.1 = t.1; omega) (by show t'.2.1 = t.2.1; omega))
      subst hkk
      rw [hk] at hk'
      exact Option.some.inj hk'
  refine ⟨hrows, by omega, fun out h1 h2 => ?_⟩
  have h3 : ∀ u ∈ out.toList, ∃ a, u = Value.ref a := fun u hu => e2 u (h1.mem_iff.mp hu)
  -- the rows of what comes
  let rowOf : Value → Rw := fun v => (rows.find? fun t => decide ((t.1 : Int) * 64 + (t.2.1 : Int) = rowRk s.heap v)).getD (0, 0, 0)
  have hof : ∀ (k : Nat) (v : Value) (t : Rw), its[k]? = some v → rows[k]? = some t → rowOf v = t := fun k v t hv ht => by
    obtain ⟨t', ht', h4, _⟩ := hraw k v hv
    rw [ht] at ht'
    cases ht'
    have hrk := h4.rk
    have hfind : ∃ t2, rows.find? (fun t => decide ((t.1 : Int) * 64 + (t.2.1 : Int) = rowRk s.heap v)) = some t2 := by
      rw [← Option.isSome_iff_exists, List.find?_isSome]
      exact ⟨t, List.mem_of_getElem? ht, decide_eq_true hrk.symm⟩
    obtain ⟨t2, ht2⟩ := hfind
    have hp2 := of_decide_eq_true (List.find?_some (p := fun t : Rw => decide ((t.1 : Int) * 64 + (t.2.1 : Int) = rowRk s.heap v)) ht2)
    have hm2 := List.mem_of_find?_eq_some ht2
    have b1 := hlt t (List.mem_of_getElem? ht)
    have b2 := hlt t2 hm2
    have eij : t2.1 = t.1 ∧ t2.2.1 = t.2.1 := by omega
    obtain ⟨k2, hk2⟩ := List.mem_iff_getElem?.mp hm2
    have hkk : k2 = k := by
      refine Decidable.byContradiction fun hne => ?_
      have hp := List.pairwise_map.mp hnd
      have l1 := (List.getElem?_eq_some_iff.mp hk2).1
      have l2 := (List.getElem?_eq_some_iff.mp ht).1
      have g1 := (List.getElem?_eq_some_iff.mp hk2).2
      have g2 := (List.getElem?_eq_some_iff.mp ht).2
      rcases Nat.lt_or_gt_of_ne hne with c | c
      · have := List.pairwise_iff_getElem.mp hp k2 k l1 l2 c
        rw [g1, g2] at this
        exact this (Prod.ext eij.1 eij.2)
      · have := List.pairwise_iff_getElem.mp hp k k2 l2 l1 c
        rw [g1, g2] at this
        exact this (Prod.ext eij.1.symm eij.2.symm)
    subst hkk
    rw [ht] at hk2
    cases hk2
    show (rows.find? _).getD _ = t
    rw [ht2]
    rfl
  have hmapits : its.map rowOf = rows := by
    apply List.ext_getElem?
    intro k
    rw [List.getElem?_map]
    cases hv : its[k]? with
    | none =>
      have := List.getElem?_eq_none_iff.mp hv
      rw [List.getElem?_eq_none (by omega)]
      rfl
    | some v =>
      obtain ⟨t, ht, _⟩ := hraw k v hv
      rw [ht]
      show some (rowOf v) = some t
      rw [hof k v t hv ht]
  have hmem : ∀ v ∈ out.toList, RowV s.heap v ((rowOf v).1 : Int) ((rowOf v).2.1 : Int) ∧ RowR X.K (rowOf v) (bkV v) H ∧ rowOf v ∈ rows := fun v hv => by
    obtain ⟨k, hk⟩ := List.mem_iff_getElem?.mp (h1.mem_iff.mp hv)
    obtain ⟨t, ht, h4, h5⟩ := hraw k v hk
    rw [hof k v t hk ht]
    exact ⟨h4, h5, List.mem_of_getElem? ht⟩
  have hperm : (out.toList.map rowOf).Perm rows := by
    rw [← hmapits]
    exact h1.map rowOf
  refine ⟨h3, out.toList.map rowOf, hperm, ?_, by rw [List.length_map, List.length_map], fun k t y hk hy => ?_⟩
  · have hnd' : ((out.toList.map rowOf).map fun t => (t.1, t.2.1)).Nodup := (hperm.map _).nodup_iff.mpr hnd
    have hnd2 := List.pairwise_map.mp (List.pairwise_map.mp hnd')
    rw [List.pairwise_map]
    refine List.Pairwise.imp_of_mem (fun {u v} hu hv z => ?_) (hnd2.and h2)
    obtain ⟨r1, _, m1⟩ := hmem u hu
    obtain ⟨r2, _, m2⟩ := hmem v hv
    have k1 := r1.rk
    have k2 := r2.rk
    have b1 := hlt _ m1
    have b2 := hlt _ m2
    have hle := z.2
    rw [k1, k2] at hle
    have hne : ¬ ((rowOf u).1 = (rowOf v).1 ∧ (rowOf u).2.1 = (rowOf v).2.1) := fun w => z.1 (Prod.ext w.1 w.2)
    show (rowOf u).1 < (rowOf v).1 ∨ ((rowOf u).1 = (rowOf v).1 ∧ (rowOf u).2.1 < (rowOf v).2.1)
    omega
  · rw [List.getElem?_map] at hk hy
    cases e : out.toList[k]? with
    | none => rw [e] at hk; cases hk
    | some v =>
      rw [e] at hk hy
      cases hk
      cases hy
      exact (hmem v (List.mem_of_getElem? e)).2.1
theorem cr_sortRow (hu : X.A.units + 64 < cLine) : CallR X (.builtin "sorted") (rSortRow X.K) := by
  intro pins s σ H vs us Q I r h
  obtain ⟨a, xs, rows, rfl, hs, h64, hall, hnd, hlt, q⟩ := h
  obtain ⟨its, rv, hl, hz⟩ := I.list hs
  rw [Vals.ref1 r]
  obtain ⟨hrows, hlen0, hout⟩ := rows_pack I rv hall hnd hlt
  refine sorted_rows (by omega) hl.isList (by omega) hrows fun out h1 h2 => ?_
  obtain ⟨h3, rows', p1, p2, p3⟩ := hout out h1 h2
  obtain ⟨ep, he'⟩ := PyProof.Rows.sortedAll_at s.heap its out
  have hlen : (out.toList.map bkV).length ≤ sizeLine := by
    rw [List.length_map, h1.length_eq, hlen0]
    exact Nat.le_trans (by omega : rows.length ≤ 64) (by decide)
  exact ⟨.ref _, upd H (s.heap.objs.size + 1) (.lst (out.toList.map bkV)), I.laid (t' := s.toks) (fun _ _ => PyProof.Rows.sortedAll_old) (Nat.le_succ _) ⟨hlen, out.toList, ep, bkV_vals h3, he'⟩, rfl, q _ rows' _ p1 p2 p3 (I.hok.fresh (Nat.le_succ _))⟩
/-- sorted(a tuple of rows) -/
def rSortRowT (K : PySem.W.Frag) : List V → Hp → VK → Prop := fun vs H Q => ∃ (a : Addr) (xs : List V) (rows : List Rw), vs = [.ref a] ∧ SqT K H a xs ∧ rows.length < 64 ∧ AllR (RowR K) rows xs H ∧ (rows.map fun t => (t.1, t.2.1)).Nodup ∧ (∀ t ∈ rows, t.1 < 64 ∧ t.2.1 < 64) ∧
  ∀ (ys : List V) (rows' : List Rw) (p : Addr), rows'.Perm rows → (rows'.Pairwise fun a b => lexP (a.1, a.2.1) (b.1, b.2.1)) → AllR (RowR K) rows' ys H → H p = none → Q (.ref p) (upd H p (.lst ys))
theorem cr_sortRowT (hu : X.A.units + 64 < cLine) : CallR X (.builtin "sorted") (rSortRowT X.K) := by
  intro pins s σ H vs us Q I r h
  obtain ⟨a, xs, rows, rfl, hs, h64, hall, hnd, hlt, q⟩ := h
  obtain ⟨its, rv, ⟨o, ho, hc, n, hd⟩, hz⟩ := I.tuple hs
  rw [Vals.ref1 r]
  obtain ⟨hrows, hlen0, hout⟩ := rows_pack I rv hall hnd hlt
  refine Calls.call_function_entry kind_sorted plain_sorted entry_sorted (args_sorted1 _) ?_
  unfold Builtin.«sorted»
  refine wpAny_bind (m := checkCount "sorted" 1 1 _) (wpAny_pure ?_)
  refine wpAny_bind (wpAny_collect_seq (T := "tuple") a (.inr rfl) ho hc hd (fun h' hk => ?_) (by rw [List.size_toArray, sizeLine_eq]; omega))
  have I1 : Inv X pins σ H { s with heap := h' } := I.kept (t' := s.toks) hk
  have ei : its.toArray.toList = its := List.toList_toArray
  rw [ei]
  refine wpAny_bind (wpAny_newList ?_ (by rw [sizeLine_eq]; omega))
  have hoL : (h'.push (seqObj "list" its.toArray 0)).get? h'.objs.size = some (seqObj "list" its.toArray 0) := Heap.get?_push_size _ rfl
  have keep : ∀ b o, s.heap.get? b = some o → o.cls = .type "tuple" → (h'.push (seqObj "list" its.toArray 0)).get? b = some o := fun b o e _ => Heap.get?_push_of_some _ (hk _ _ e)
  show wpAny _ _ _ _ _ { s with heap := h'.push (seqObj "list" its.toArray 0) }
  refine wpAny_bind (wpAny_holding (wpAny_call_entry slot_list_sort ⟨_, hoL, rfl⟩ entry_list_sort (sort_rows (s := { s with heap := h'.push (seqObj "list" its.toArray 0) }) (by show X.A.units + 1 + 1 < cLine; omega) hoL (by omega) (hrows.keeps keep) (fun v => rowRk s.heap v) (fun v hv i j t => ?_) fun out a1 a2 => ⟨_, rfl, ?_⟩) (args_list_sort _)))
  · obtain ⟨i0, j0, t0, _⟩ := hrows.1 v hv
    obtain ⟨rfl, rfl⟩ := (t0.keeps keep).inj t
    exact t0.rk
  · obtain ⟨h3, rows', p1, p2, p3⟩ := hout out a1 a2
    obtain ⟨e', he'⟩ := PyProof.Rows.sortedHeap_at (vs := its) (out := out) hoL
    have hlen : (out.toList.map bkV).length ≤ sizeLine := by
      rw [List.length_map, a1.length_eq, hlen0]
      exact Nat.le_trans (by omega : rows.length ≤ 64) (by decide)
    refine wpAny_pure ⟨_, rfl, .ref h'.objs.size, upd H h'.objs.size (.lst (out.toList.map bkV)), I1.laid (t' := s.toks) (fun b u e => ?_) (Nat.le_refl _) ⟨hlen, out.toList, e', bkV_vals h3, he'⟩, rfl, q _ rows' _ p1 p2 p3 (I1.hok.fresh (Nat.le_refl _))⟩
    have hb : b < h'.objs.size := Heap.lt_size e
    rw [PyProof.Rows.sortedHeap_old (Nat.ne_of_lt hb) (by rw [size_push']; exact Nat.lt_succ_of_lt hb)]
    exact Heap.get?_push_of_some _ e
end
end Cut


namespace Cut
open PySem PySem.Spec PyProof.Rows L2 Evl
/-! ### the law's webs -/
/-- what is not a list stays -/
def Kn (H H' : Hp) : Prop := ∀ b o, H b = some o → (∀ xs, o ≠ .lst xs) → H' b = some o
theorem Kn.of {H H' : Hp} (e : Ex H H') : Kn H H' := fun b o h _ => e b o h
theorem Kn.trans {H H1 H2 : Hp} (a : Kn H H1) (b : Kn H1 H2) : Kn H H2 := fun c o h n => b c o (a c o h n) n
theorem Kn.kt {H H' : Hp} (k : Kn H H') : Kt H H' := fun b xs h => k b _ h (by intro ys z; cases z)
theorem Kn.km {H H' : Hp} {da : Addr} (k : Km [da] H H') (h : DrAt H da) : Kn H H' := fun b o hb ho => k b o hb fun z => by
  obtain ⟨ds, _, hx⟩ := h
  rw [List.mem_singleton.mp z, hx] at hb
  cases hb
  exact ho _ rfl
theorem Km.mutNew {M : List Addr} {H H' : Hp} {p : Addr} {o : HO} (k : Km M H H') (h : H p = none) : Km M H (L2.upd H' p o) := fun b u hb hn => by
  have : b ≠ p := fun z => by
    rw [z, h] at hb
    cases hb
  rw [upd_ne this]
  exact k b u hb hn
theorem DrAt.ne {H : Hp} {da p : Addr} (h : DrAt H da) (n : H p = none) : p ≠ da := fun z => by
  obtain ⟨ds, _, hx⟩ := h
  rw [z, hx] at n
  cases n
theorem Km.freshD {H H' : Hp} {da p : Addr} (k : Km [da] H H') (d : DrAt H' da) (h : H' p = none) : H p = none := k.fresh (fun m hm z => by
  obtain ⟨ds, _, hx⟩ := d
  rw [List.mem_singleton.mp hm, hx] at z
  cases z) h
theorem EXgo {te : TE} {σ : L2.St} {H : Hp} {post : V → Hp → Prop} {Q : VK} (h : EX te σ H post) (k : ∀ v H1, Ex H H1 → post v H1 → Q v H1) : te σ H Q := h H (Ex.refl H) Q k
/-- a pair of places below n -/
def PrS (n : Nat) (y : V) (H : Hp) : Prop := ∃ i j q, y = .ref q ∧ H q = some (.tup [iV i, iV j]) ∧ i < n ∧ j < n
theorem PrS.kt {n : Nat} {y : V} {H H' : Hp} (h : PrS n y H) (k : Kt H H') : PrS n y H' := by
  obtain ⟨i, j, q, h1, h2, h3⟩ := h
  exact ⟨i, j, q, h1, k _ _ h2, h3⟩
section
variable {X : Cx} {σ : L2.St} {H : Hp} {pos p2 : Pos} {a b c : Expr}
theorem ex_pair {k n : Nat} (i j : Nat) (ha : EV X a σ H (iV i)) (hb : EV X b σ H (iV j)) (hi : i < n) (hj : j < n) (h1 : starEach [b] X.env = (false, eval b X.env) :: starEach [] X.env := by rfl) (h2 : starEach [a, b] X.env = (false, eval a X.env) :: starEach [b] X.env := by rfl) : EX (EW X (.Tuple [a, b] k pos)) σ H (PrS n) := fun H1 e1 Q q =>
  EUgo (evu_tup (av_cons (Evl.Ev.mono e1 ha) (av_cons (Evl.Ev.mono e1 hb) av_nil h1) h2) (Nat.le_of_ble_eq_true rfl)) fun p H2 np e2 hp => q _ H2 e2 ⟨i, j, p, rfl, hp, hi, hj⟩
/-- [x, y][one or nought] -/
theorem ev_pick2 {x y : V} {k : Bool} (ha : EV X a σ H x) (hb : EV X b σ H y) (hc : EV X c σ H (.int (if k then 1 else 0))) (hs : PlainIx c := by exact fun _ _ => rfl) (h1 : starEach [b] X.env = (false, eval b X.env) :: starEach [] X.env := by rfl) (h2 : starEach [a, b] X.env = (false, eval a X.env) :: starEach [b] X.env := by rfl) :
    EV X (.Subscript (.List [a, b] p2) c pos) σ H (if k then y else x) := fun H1 e1 Q q =>
  ew_ixLI (ELgo (te := EW X _) (evl_lst (av_cons (Evl.Ev.mono e1 ha) (av_cons (Evl.Ev.mono e1 hb) av_nil h1) h2) (Nat.le_of_ble_eq_true rfl)) fun p H2 np e2 hp => ⟨p, rfl, EVgo (te := EW X c) (Evl.Ev.mono (e1.trans e2) hc) fun H3 e3 => ⟨[x, y], if k then 1 else 0, _, by cases k <;> rfl, .inl (.inl (e3 _ _ hp)), by cases k <;> rfl, q H3 (e2.trans e3)⟩⟩) hs
end
section
variable {P : Program} {w : World} {K : PySem.W.Frag} {mg : Str → Option Value} {base : Heap} {CR CW CN CH : Addr}
def spPairs : Sp := fun vs H Q _ => ∃ (da : Addr) (n : Nat), vs = [.ref da, .int (n : Int)] ∧ DrAt H da ∧ (3 ≤ n ∧ n ≤ 7) ∧ ∀ (pa : Addr) (ys : List V) H', DrAt H' da → Km [da] H H' → H pa = none → H' pa = some (.lst ys) → ys.length ≤ 100 → (∀ y ∈ ys, PrS n y H') → Q (.ref pa) H'
/-! _law_pairs: slots 0 _law_draws_here, 1 _law_many, 2 _law_kind, 3 _law_middle, 4 _law_found, 5 _law_i, 6 _law_j, 7 _law_draw, 8 _law_k -/
theorem sc_law_pairs : FnScope ["_law_draws_here", "_law_many", "_law_kind", "_law_middle", "_law_found", "_law_i", "_law_j", "_law_draw", "_law_k"] ["_law_draws_here", "_law_many"] (defScope s_law_pairs) := ⟨rfl, rfl, rfl, by decide +kernel, rfl, by decide +kernel, by decide +kernel⟩
theorem ok_law_pairs (T : Tops K mg CR CW CN CH) (hn : Has P w K mg base 1 "_law_next" ["_law_draws_here"] spNext) : Has P w K mg base 2 "_law_pairs" ["_law_draws_here", "_law_many"] spPairs := by
  refine has_of (k := 1) T.law_pairs sc_law_pairs (fun _ _ _ _ _ _ us hl => match us, hl with | [_, _], _ => rfl) (fun vs H Q E h => by
    obtain ⟨da, n, rfl, _⟩ := h
    rfl) ?_
  intro f cdv A outer s H0 H vs Q E E0 hr h
  obtain ⟨da, n, rfl, hd, hn7, q⟩ := h
  have nd := (sc_law_pairs).nd
  refine bw_cons (sw_set 2 (ew_modI (ew_next hn hr (ev_name 0) hd fun v H1 d1 k1 => ⟨_, rfl, EVgo ev_int fun H2 e2 => ⟨8, rfl, by decide, ?_⟩⟩)))
  generalize (v : Int) % 8 = kd
  refine bw_cons (sw_set 3 (EVgo (ev_is (w := iV (1 + n / 2)) (ev_add ev_int (ev_fdiv (ev_name 1) ev_int ⟨by decide, by decide⟩)) (by show V.int _ = V.int _; congr 1)) fun H3 e3 => ?_))
  have d3 : DrAt H3 da := (d1.mono e2).mono e3
  have k3 : Km [da] H H3 := k1.trans (Km.of (e2.trans e3))
  clear k1 d1 e2 e3
  have fin : ∀ {pa : Addr} {ys : List V} {H' : Hp}, Ex H3 H' → H3 pa = none → H' pa = some (.lst ys) → ys.length ≤ 100 → (∀ y ∈ ys, PrS n y H') → Q (.ref pa) H' := fun {pa ys H'} e h1 h2 h3 h4 => q pa ys H' (d3.mono e) (k3.trans (Km.of e)) (k3.freshD d3 h1) h2 h3 h4
  -- 0
  refine bw_cons (sw_ifV (tv_eq (ev_name 2) ev_int) (fun _ H4 e4 => ?_) (fun _ H4 e4 => bw_nil ?_))
  · refine bw_one (sw_ret (ew_lc (own := [("_law_k", 8)]) (lc_rU (R := PrS n) T.b.b_range (n := n) (ev_name 1) (by omega) (fun i => [some (.ref da), some (.int (n : Int)), some (.int kd), some (iV (1 + n / 2)), none, none, none, none, some (iV i)]) (fun i hi s0 H0 C cl fp => gv_name 8) (fun _ => rfl) (fun i hi s0 H0 C cl fp => ex_pair i ((i + 1) % n) (ev_name 8) (ev_is (ev_mod (ev_add (ev_name 8) ev_int) (ev_name 1) (by omega)) (by show V.int _ = V.int _; congr 1)) hi (Nat.mod_lt _ (by omega))) (fun y H1 H2 h k => h.kt k) fun p ys H5 np e5 hp hl hall => fin (e4.trans e5) (Evl.fresh_back e4 np) hp (by omega) hall)))
  -- 1
  refine bw_cons (sw_ifV (tv_eq (ev_name 2) ev_int) (fun _ H5 e5 => ?_) (fun _ H5 e5 => bw_nil ?_))
  · have e35 := e4.trans e5
    refine bw_one (sw_ret (ew_cat (ew_lc (own := [("_law_k", 8)]) (lc_rU (R := PrS n) T.b.b_range (n := n) (ev_name 1) (by omega) (fun i => [some (.ref da), some (.int (n : Int)), some (.int kd), some (iV (1 + n / 2)), none, none, none, none, some (iV i)]) (fun i hi s0 H0 C cl fp => gv_name 8) (fun _ => rfl) (fun i hi s0 H0 C cl fp => ?_) (fun y H1 H2 h k => h.kt k) fun p ys H6 np e6 hp hl hall => ?_))))
    · refine ex_pair i (if (decide (i = n / 2) || decide (i = n - 1)) then 0 else i + 1) (ev_name 8) (ev_is (ev_pick2 (k := decide (i = n / 2) || decide (i = n - 1)) (ev_add (ev_name 8) ev_int) ev_int (ev_is (ev_intB T.b.b_int (ev_or (ev_eq (ev_name 8) (ev_sub (ev_name 3) ev_int)) fun _ => ev_one (ev_eq (ev_name 8) (ev_sub (ev_name 1) ev_int)))) ?_)) ?_) hi ?_
      · have h1 : decide (V.int (i : Int) = V.int (((1 + n / 2 : Nat) : Int) - 1)) = decide (i = n / 2) := by
          rw [decide_eq_decide, V.int.injEq]
          omega
        have h2 : decide (V.int (i : Int) = V.int ((n : Int) - 1)) = decide (i = n - 1) := by
          rw [decide_eq_decide, V.int.injEq]
          omega
        show V.int (if (decide (V.int (i : Int) = V.int (((1 + n / 2 : Nat) : Int) - 1)) || decide (V.int (i : Int) = V.int ((n : Int) - 1))) = true then 1 else 0) = _
        rw [h1, h2]
      · cases (decide (i = n / 2) || decide (i = n - 1)) <;> rfl
      · by_cases c : (decide (i = n / 2) || decide (i = n - 1)) = true
        · rw [if_pos c]; omega
        · rw [if_neg c]
          simp only [Bool.or_eq_true, decide_eq_true_eq, not_or] at c
          omega
    · refine ew_lst (aw_cons (EXgo (te := EW _ _) (ex_pair (n := n) 0 ((1 + n / 2) % n) ev_int (ev_is (ev_mod (ev_name 3) (ev_name 1) (by omega)) (by show V.int _ = V.int _; congr 1)) (by omega) (Nat.mod_lt _ (by omega))) fun z H7 e7 hz => aw_nil ⟨by show 1 ≤ sizeLine; decide, fun c nc => ⟨p, c, ys, [z], rfl, rfl, Ex.new nc _ _ (e7 _ _ hp), upd_same, Evl.sz_of (by show ys.length + 1 ≤ _; omega), fun r nr => ?_⟩⟩))
      have e6r : Ex H6 (upd (upd H7 c (.lst [z])) r (.lst (ys ++ [z]))) := e7.trans ((Ex.new nc).trans (Ex.new nr))
      refine fin (e35.trans (e6.trans e6r)) (Evl.fresh_back ((e35.trans e6).trans (e7.trans (Ex.new nc))) nr) upd_same (by rw [List.length_append]; show ys.length + 1 ≤ _; omega) fun y hy => ?_
      rcases List.mem_append.mp hy with hy | hy
      · exact (hall y hy).kt (Kt.of e6r)
      · rw [List.mem_singleton.mp hy]
        exact hz.kt (Kt.of ((Ex.new nc).trans (Ex.new nr)))
  -- 2
  refine bw_cons (sw_ifV (tv_eq (ev_name 2) ev_int) (fun _ H6 e6 => ?_) (fun _ H6 e6 => bw_nil ?_))
  · have e36 := (e4.trans e5).trans e6
    refine bw_one (sw_ret (ew_lc (own := [("_law_k", 8)]) (lc_rU2 (R := PrS n) T.b.b_range (lo := 1) (n := n) ev_int (ev_name 1) (by omega) (fun i => [some (.ref da), some (.int (n : Int)), some (.int kd), some (iV (1 + n / 2)), none, none, none, none, some (iV (1 + i))]) (fun i hi s0 H0 C cl fp => gv_name 8) (fun _ => rfl) (fun i hi s0 H0 C cl fp => ex_pair 0 (1 + i) ev_int (ev_name 8) (by omega) (by omega)) (fun y H1 H2 h k => h.kt k) fun p ys H7 np e7 hp hl hall => fin (e36.trans e7) (Evl.fresh_back e36 np) hp (by omega) hall)))
  -- 3
  refine bw_cons (sw_ifV (tv_eq (ev_name 2) ev_int) (fun _ H7 e7 => ?_) (fun _ H7 e7 => bw_nil ?_))
  · have e37 := ((e4.trans e5).trans e6).trans e7
    refine bw_one (sw_ret (ew_cat (ew_lc (own := [("_law_k", 8)]) (lc_rU2 (R := PrS n) T.b.b_range (lo := 1) (n := n) ev_int (ev_name 1) (by omega) (fun i => [some (.ref da), some (.int (n : Int)), some (.int kd), some (iV (1 + n / 2)), none, none, none, none, some (iV (1 + i))]) (fun i hi s0 H0 C cl fp => gv_name 8) (fun _ => rfl) (fun i hi s0 H0 C cl fp => ex_pair ((1 + i) / 2) (1 + i) (ev_is (ev_fdiv (ev_name 8) ev_int ⟨by decide, by decide⟩) (by show V.int _ = V.int _; congr 1)) (ev_name 8) (by omega) (by omega)) (fun y H1 H2 h k => h.kt k) fun p ys H8 np e8 hp hl hall => ?_))))
    refine ew_lst (aw_cons (EXgo (te := EW _ _) (ex_pair (n := n) 0 (n - 1) ev_int (ev_is (ev_sub (ev_name 1) ev_int) (by show V.int _ = V.int _; congr 1; omega)) (by omega) (by omega)) fun z H9 e9 hz => aw_nil ⟨by show 1 ≤ sizeLine; decide, fun c nc => ⟨p, c, ys, [z], rfl, rfl, Ex.new nc _ _ (e9 _ _ hp), upd_same, Evl.sz_of (by show ys.length + 1 ≤ _; omega), fun r nr => ?_⟩⟩))
    have e8r : Ex H8 (upd (upd H9 c (.lst [z])) r (.lst (ys ++ [z]))) := e9.trans ((Ex.new nc).trans (Ex.new nr))
    refine fin (e37.trans (e8.trans e8r)) (Evl.fresh_back ((e37.trans e8).trans (e9.trans (Ex.new nc))) nr) upd_same (by rw [List.length_append]; show ys.length + 1 ≤ _; omega) fun y hy => ?_
    rcases List.mem_append.mp hy with hy | hy
    · exact (hall y hy).kt (Kt.of e8r)
    · rw [List.mem_singleton.mp hy]
      exact hz.kt (Kt.of ((Ex.new nc).trans (Ex.new nr)))
  -- 4
  refine bw_cons (sw_ifV (tv_eq (ev_name 2) ev_int) (fun _ H8 e8 => ?_) (fun _ H8 e8 => bw_nil ?_))
  · have e38 := (((e4.trans e5).trans e6).trans e7).trans e8
    refine bw_one (sw_ret (ew_cat (ew_lc (own := [("_law_k", 8)]) (lc_rU (R := PrS n) T.b.b_range (n := n - 2) (ev_is (ev_sub (ev_name 1) ev_int) (by congr 1; omega)) (by omega) (fun i => [some (.ref da), some (.int (n : Int)), some (.int kd), some (iV (1 + n / 2)), none, none, none, none, some (iV i)]) (fun i hi s0 H0 C cl fp => gv_name 8) (fun _ => rfl) (fun i hi s0 H0 C cl fp => ex_pair i (i + 2) (ev_name 8) (ev_is (ev_add (ev_name 8) ev_int) (by show V.int _ = V.int _; congr 1)) (by omega) (by omega)) (fun y H1 H2 h k => h.kt k) fun p ys H9 np e9 hp hl hall => ?_))))
    refine ew_lc (own := [("_law_k", 8)]) (lc_rU (R := PrS n) T.b.b_range (n := n / 2) (ev_is (ev_fdiv (ev_name 1) ev_int ⟨by decide, by decide⟩) (by congr 1)) (by omega) (fun i => [some (.ref da), some (.int (n : Int)), some (.int kd), some (iV (1 + n / 2)), none, none, none, none, some (iV i)]) (fun i hi s0 H0 C cl fp => gv_name 8) (fun _ => rfl) (fun i hi s0 H0 C cl fp => ex_pair (2 * i) (2 * i + 1) (ev_is (ev_mul ev_int (ev_name 8) (.inl ⟨by decide, by decide⟩)) (by show V.int _ = V.int _; congr 1)) (ev_is (ev_add (ev_mul ev_int (ev_name 8) (.inl ⟨by decide, by decide⟩)) ev_int) (by show V.int _ = V.int _; congr 1)) (by omega) (by omega)) (fun y H1 H2 h k => h.kt k) fun p2 ys2 Ha np2 ea hp2 hl2 hall2 => ?_)
    refine ⟨p, p2, ys, ys2, rfl, rfl, ea _ _ hp, hp2, Evl.sz_of (by omega), fun r nr => ?_⟩
    refine fin (e38.trans (e9.trans (ea.trans (Ex.new nr)))) (Evl.fresh_back ((e38.trans e9).trans ea) nr) upd_same (by rw [List.length_append]; omega) fun y hy => ?_
    rcases List.mem_append.mp hy with hy | hy
    · exact (hall y hy).kt (Kt.of (ea.trans (Ex.new nr)))
    · exact (hall2 y hy).kt (Kt.of (Ex.new nr))
  -- 5, 6, 7
  have e38 := (((e4.trans e5).trans e6).trans e7).trans e8
  have d8 := d3.mono e38
  have k8 := k3.trans (Km.of e38)
  refine bw_cons (sw_set 4 (ew_lst (aw_nil ⟨by show 0 ≤ sizeLine; exact Nat.zero_le _, fun fa nfa => ?_⟩)))
  have e9 : Ex H8 (upd H8 fa (.lst [])) := Ex.new nfa
  have h9 : (upd H8 fa (.lst [])) fa = some (.lst []) := upd_same
  have nfH : H fa = none := k8.freshD d8 nfa
  have nfd : fa ≠ da := d8.ne nfa
  generalize upd H8 fa (.lst []) = H9 at e9 h9
  have step : ∀ {H1 H2 : Hp} {ys : List V}, Km [da] H1 H2 → DrAt H1 da → H1 fa = some (.lst ys) → (∀ y ∈ ys, PrS n y H1) → H2 fa = some (.lst ys) ∧ ∀ y ∈ ys, PrS n y H2 := fun {H1 H2 ys} k d h1 h2 => ⟨k _ _ h1 (by simp [nfd]), fun y hy => (h2 y hy).kt (Kn.km k d).kt⟩
  refine bw_cons (sw_forR1 PassesOwn.never T.b.b_range (n := n) (ev_name 1) (by omega) (fun i σ' H' => ∃ (z5 z6 z7 : Option V) (ys : List V), σ' = [some (.ref da), some (.int (n : Int)), some (.int kd), some (iV (1 + n / 2)), some (.ref fa), z5, z6, z7, none] ∧ H' fa = some (.lst ys) ∧ (∀ y ∈ ys, PrS n y H') ∧ ys.length ≤ i * 7 ∧ DrAt H' da ∧ Km [da] H H') (fun Ha ea => ⟨none, none, none, [], rfl, ea _ _ h9, (fun y hy => nomatch hy), Nat.zero_le _, (d8.mono e9).mono ea, k8.trans (Km.of (e9.trans ea))⟩) ?_ ?_)
  · rintro i σ' H' hi ⟨z5, z6, z7, ys, rfl, hf, hall, hl, dd, kk⟩
    refine gw_name 5 ?_
    refine bw_one (sw_forR2 PassesOwn.never T.b.b_range (lo := i + 1) (n := n) (ev_is (ev_add (ev_name 5) ev_int) (by show V.int _ = V.int _; congr 1)) (ev_name 1) (by omega) (fun j σ' H' => ∃ (z6 z7 : Option V) (ys : List V), σ' = [some (.ref da), some (.int (n : Int)), some (.int kd), some (iV (1 + n / 2)), some (.ref fa), some (iV i), z6, z7, none] ∧ H' fa = some (.lst ys) ∧ (∀ y ∈ ys, PrS n y H') ∧ ys.length ≤ i * 7 + j ∧ DrAt H' da ∧ Km [da] H H') (fun Ha ea => ⟨z6, z7, ys, rfl, ea _ _ hf, (fun y hy => (hall y hy).kt (Kt.of ea)), by omega, dd.mono ea, kk.trans (Km.of ea)⟩) ?_ ?_)
    · rintro j σ' H' hj ⟨z6, z7, ys, rfl, hf, hall, hl, dd, kk⟩
      refine gw_name 6 ?_
      refine bw_cons (sw_set 7 (ew_next hn hr (ev_name 0) dd fun v Ha da' ka => ?_))
      obtain ⟨hfa, halla⟩ := step ka dd hf hall
      refine bw_one (sw_ifV (tv_bool (wv_or (tv_bool (wv_and (tv_eq (ev_name 2) ev_int) fun _ => wv_one_and (tv_eq (ev_lt (ev_name 5) (ev_name 3)) (ev_lt (ev_name 6) (ev_name 3))))) fun _ => wv_or (tv_bool (wv_and (tv_eq (ev_name 2) ev_int) fun _ => wv_one_and (tv_eq (ev_mod (ev_add (ev_name 5) (ev_name 6)) ev_int (by decide)) ev_int))) fun _ => wv_one_or (tv_eq (ev_mod (ev_name 7) ev_int (by decide)) ev_int))) (fun _ Hb eb => ?_) (fun _ Hb eb => bw_nil ⟨_, _, ys, rfl, eb _ _ hfa, (fun y hy => (halla y hy).kt (Kt.of eb)), by omega, da'.mono eb, kk.trans (ka.trans (Km.of eb))⟩))
      refine bw_one (sw_expr (ew_append (ev_name 4) ⟨_, eb _ _ hfa⟩ fun Hc ec => EXgo (te := EW _ _) (ex_pair (n := n) i (i + 1 + j) (ev_name 5) (ev_name 6) (by omega) (by omega)) fun z Hd ed hz => ?_))
      have hfd := ed _ _ (ec _ _ (eb _ _ hfa))
      refine ⟨ys, hfd, Evl.sz_lt (by omega), _, _, ys ++ [z], rfl, upd_same, fun y hy => ?_, by rw [List.length_append]; show ys.length + 1 ≤ _; omega, ?_, (kk.trans (ka.trans (Km.of ((eb.trans ec).trans ed)))).mutNew nfH⟩
      · rcases List.mem_append.mp hy with hy | hy
        · exact ((halla y hy).kt (Kt.of ((eb.trans ec).trans ed))).kt (Kt.updL hfd)
        · rw [List.mem_singleton.mp hy]
          exact hz.kt (Kt.updL hfd)
      · obtain ⟨ds, a1, a2⟩ := da'
        exact ⟨ds, a1, by rw [upd_ne (Ne.symm nfd)]; exact ed _ _ (ec _ _ (eb _ _ a2))⟩
    · rintro σ' H' ⟨z6, z7, ys, rfl, hf, hall, hl, dd, kk⟩
      exact ⟨_, _, _, ys, rfl, hf, hall, by omega, dd, kk⟩
  · rintro σ' H' ⟨z5, z6, z7, ys, rfl, hf, hall, hl, dd, kk⟩
    exact bw_one (sw_ret (EVgo (ev_name 4) fun Ha ea => q fa ys Ha (dd.mono ea) (kk.trans (Km.of ea)) nfH (ea _ _ hf) (by omega) fun y hy => (hall y hy).kt (Kt.of ea)))
end
end Cut


namespace Cut
open PySem PySem.Spec PyProof.Rows L2 Evl
/-! ### ties by places -/
structure TdAt (K : PySem.W.Frag) (H : Hp) (td : Addr) (n : Nat) (W : Mx) : Prop where
  ob : ∃ kvs g, H td = some (.dT kvs) ∧ Pd n kvs g ∧ (∀ i j v, g i j = some v → i < j ∧ ∃ m, Amt K H v m ∧ Gw m ∧ W i j = ((m : Nat) : Int)) ∧ ∀ i j, i < j → j < n → g i j = none → W i j = 0
  ok : Wok W
theorem TdAt.kn {K : PySem.W.Frag} {H H' : Hp} {td : Addr} {n : Nat} {W : Mx} (h : TdAt K H td n W) (k : Kn H H') : TdAt K H' td n W := by
  obtain ⟨⟨kvs, g, h1, h2, h3, h4⟩, h5⟩ := h
  refine ⟨⟨kvs, g, k _ _ h1 (by intro xs z; cases z), h2, fun i j v hv => ?_, h4⟩, h5⟩
  obtain ⟨a, m, b, c⟩ := h3 i j v hv
  exact ⟨a, m, b.kt k.kt, c⟩
def setW (W : Mx) (i j : Nat) (m : Nat) : Mx := fun a b => if (a = i ∧ b = j) ∨ (a = j ∧ b = i) then (m : Int) else W a b
theorem setW_ok {W : Mx} (w : Wok W) {i j m : Nat} (h : i ≠ j) : Wok (setW W i j m) := by
  refine ⟨fun a b => ?_, fun a b => ?_, fun a => ?_⟩
  · unfold setW
    by_cases c : (a = i ∧ b = j) ∨ (a = j ∧ b = i)
    · rw [if_pos c, if_pos (by omega)]
    · rw [if_neg c, if_neg (by omega)]
      exact w.sym a b
  · unfold setW
    by_cases c : (a = i ∧ b = j) ∨ (a = j ∧ b = i)
    · rw [if_pos c]
      omega
    · rw [if_neg c]
      exact w.nn a b
  · unfold setW
    rw [if_neg (by omega)]
    exact w.dia a
theorem TdAt.put {K : PySem.W.Frag} {H : Hp} {td : Addr} {n : Nat} {W : Mx} (h : TdAt K H td n W) {i j m : Nat} (hij : i < j) (hj : j < n) (hn : n ≤ 7) {t : Addr} {v : V} (ht : H t = some (.tup [iV i, iV j])) (hv : Amt K H v m) (gw : Gw m) :
    ∃ H2, DPut H td (.ref t) v H2 ∧ TdAt K H2 td n (setW W i j m) ∧ Km [td] H H2 := by
  obtain ⟨⟨kvs, g, h1, h2, h3, h4⟩, h5⟩ := h
  have hi : i < n := by omega
  refine ⟨upd H td (.dT (putK kvs (kp i j) v)), DPut.t (k := kp i j) h1 ht (h2.small (by omega)), ⟨⟨_, _, upd_same, h2.put hi hj v, fun a b u hu => ?_, fun a b hab hb hu => ?_⟩, setW_ok h5 (by omega)⟩, (Km.of (Ex.refl H)).upd (by simp)⟩
  · have kt : Kt H (upd H td (.dT (putK kvs (kp i j) v))) := Kt.upd fun xs z => by
      rw [h1] at z
      cases z
    by_cases c : a = i ∧ b = j
    · rw [if_pos c] at hu
      cases hu
      exact ⟨by omega, m, hv.kt kt, gw, if_pos (.inl c)⟩
    · rw [if_neg c] at hu
      obtain ⟨x, m', y, z, e⟩ := h3 a b u hu
      refine ⟨x, m', y.kt kt, z, ?_⟩
      unfold setW
      rw [if_neg (by omega), e]
  · by_cases c : a = i ∧ b = j
    · rw [if_pos c] at hu
      cases hu
    · rw [if_neg c] at hu
      unfold setW
      rw [if_neg (by omega)]
      exact h4 a b hab hb hu
theorem zeM_ok : Wok zeM := ⟨fun _ _ => rfl, fun _ _ => Int.le_refl 0, fun _ => rfl⟩
theorem minmax {a b n : Nat} (h : a ≠ b) (ha : a < n) (hb : b < n) : min a b < max a b ∧ max a b < n := by omega
section
variable {P : Program} {w : World} {K : PySem.W.Frag} {mg : Str → Option Value} {base : Heap} {CR CW CN CH : Addr}
def spWeb (K : PySem.W.Frag) : Sp := fun vs H Q _ => ∃ (da : Addr), vs = [.ref da, .int 3, .int 7] ∧ DrAt H da ∧ ∀ (t td : Addr) (n : Nat) (W : Mx) H', DrAt H' da → Km [da] H H' → H' t = some (.tup [.int (n : Int), .ref td]) → 3 ≤ n → n ≤ 7 → TdAt K H' td n W → Q (.ref t) H'
/-! _law_web: slots 0 _law_draws_here, 1 _law_least, 2 _law_most, 3 _law_many, 4 _law_order_here, 5 _law_alike, 6 _law_one, 7 _law_ties, 8 _law_i, 9 _law_j, 10 _law_weight_here -/
theorem sc_law_web : FnScope ["_law_draws_here", "_law_least", "_law_most", "_law_many", "_law_order_here", "_law_alike", "_law_one", "_law_ties", "_law_i", "_law_j", "_law_weight_here"] ["_law_draws_here", "_law_least", "_law_most"] (defScope s_law_web) := ⟨rfl, rfl, rfl, by decide +kernel, rfl, by decide +kernel, by decide +kernel⟩
theorem ok_law_web (T : Tops K mg CR CW CN CH) (hn : Has P w K mg base 1 "_law_next" ["_law_draws_here"] spNext) (ho : Has P w K mg base 2 "_law_order" ["_law_draws_here", "_law_many"] spOrder) (hw : Has P w K mg base 2 "_law_weight" ["_law_draws_here"] (spWeight K)) (hp : Has P w K mg base 2 "_law_pairs" ["_law_draws_here", "_law_many"] spPairs) : Has P w K mg base 3 "_law_web" ["_law_draws_here", "_law_least", "_law_most"] (spWeb K) := by
  refine has_of (k := 2) T.law_web sc_law_web (fun _ _ _ _ _ _ us hl => match us, hl with | [_, _, _], _ => rfl) (fun vs H Q E h => by
    obtain ⟨da, rfl, _⟩ := h
    rfl) ?_
  intro f cdv A outer s H0 H vs Q E E0 hr h
  obtain ⟨da, rfl, hd, q⟩ := h
  have nd := (sc_law_web).nd
  have hu := hu_of hr
  refine bw_cons (sw_set 3 (ew_addI (EVgo (ev_name 1) fun H1 e1 => ⟨3, rfl, ew_modI (ew_next hn hr (ev_name 0) (hd.mono e1) fun v H2 d2 k2 => ⟨_, rfl, EVgo (ev_add (ev_sub (ev_name 2) (ev_name 1)) ev_int) fun H3 e3 => ⟨_, rfl, by decide, _, rfl, ?_⟩⟩)⟩)))
  obtain ⟨n, en, hn3, hn7⟩ : ∃ n : Nat, (3 + (v : Int) % (7 - 3 + 1)) = (n : Int) ∧ 3 ≤ n ∧ n ≤ 7 := ⟨3 + v % 5, by omega, by omega, by omega⟩
  rw [en]
  have d3 := d2.mono e3
  have k3 : Km [da] H H3 := (Km.of e1).trans (k2.trans (Km.of e3))
  clear e1 d2 k2 e3 en
  refine bw_cons (sw_set 4 (ew_call ho hr (AVgo (av_cons (ev_name 0) (av_cons (ev_name 3) av_nil)) fun H4 e4 => ⟨da, n, rfl, d3.mono e4, hn7, fun oa os H5 d5 k5 noa hoa hperm => ?_⟩)))
  have k35 : Km [da] H H5 := k3.trans ((Km.of e4).trans k5)
  have noH : H oa = none := k3.freshD d3 (Evl.fresh_back e4 noa)
  have nod : oa ≠ da := (d3.mono e4).ne noa
  refine bw_cons (sw_set 5 (ew_modI (ew_next hn hr (ev_name 0) d5 fun v2 H6 d6 k6 => ⟨_, rfl, EVgo ev_int fun H7 e7 => ⟨3, rfl, by decide, ?_⟩⟩)))
  generalize (v2 : Int) % 3 = al
  refine bw_cons (sw_set 6 (ew_call hw hr (AVgo (av_cons (ev_name 0) av_nil) fun H8 e8 => ⟨da, rfl, (d6.mono e7).mono e8, fun wv H9 d9 k9 hwv => ?_⟩)))
  have k59 : Km [da] H5 H9 := k6.trans ((Km.of (e7.trans e8)).trans k9)
  have ho9 : H9 oa = some (.lst (os.map iV)) := k59 _ _ hoa (by simp [nod])
  refine bw_cons (sw_set 7 (ew_of pe_dnewT fun td ntd => ?_))
  have ea : Ex H9 (upd H9 td (.dT [])) := Ex.new ntd
  have ntH : H td = none := (k35.trans k59).freshD d9 ntd
  have hta : (upd H9 td (.dT [])) td = some (.dT []) := upd_same
  generalize upd H9 td (.dT []) = Ha at ea hta
  have tda : TdAt K Ha td n zeM := ⟨⟨[], _, hta, Pd.nil n, (fun i j v h => nomatch h), fun _ _ _ _ _ => rfl⟩, zeM_ok⟩
  have hol : os.length = n := by rw [hperm.length_eq, List.length_range]
  have hog : ∀ i, i < n → ∃ a, os[i]? = some a ∧ a < n := fun i hi => by
    have h1 := List.getElem?_eq_getElem (show i < os.length by omega)
    exact ⟨_, h1, List.mem_range.mp (hperm.mem_iff.mp (List.mem_of_getElem? h1))⟩
  have hone : ∀ {i j a b : Nat}, os[i]? = some a → os[j]? = some b → i ≠ j → a ≠ b := fun {i j a b} h1 h2 hij e => by
    subst e
    have hnd : os.Nodup := hperm.nodup_iff.mpr List.nodup_range
    exact hij ((List.getElem?_inj (List.getElem?_eq_some_iff.mp h1).1 hnd).mp (h1.trans h2.symm))
  refine bw_cons (sw_forLW PassesOwn.never (ew_call hp hr (AVgo (av_cons (ev_name 0) (av_cons (ev_name 3) av_nil)) fun Hb eb => ⟨da, n, rfl, (d9.mono ea).mono eb, ⟨hn3, hn7⟩, fun pa ys Hc dc kc npa hpa hyl hys => ⟨pa, ys, rfl, .inl (.inl hpa), fun k σ' H' => ∃ (z8 z9 z10 : Option V) (W : Mx), σ' = [some (.ref da), some (.int 3), some (.int 7), some (.int (n : Int)), some (.ref oa), some (.int al), some wv, some (.ref td), z8, z9, z10] ∧ DrAt H' da ∧ Km [da] H H' ∧ H' pa = some (.lst ys) ∧ H' oa = some (.lst (os.map iV)) ∧ (∀ y ∈ ys, PrS n y H') ∧ TdAt K H' td n W ∧ WtV K wv H', ?_, ?_, ?_, ?_⟩⟩)))
  · have kac : Km [da] Ha Hc := (Km.of eb).trans kc
    refine ⟨none, none, none, zeM, rfl, dc, (k35.trans k59).trans ((Km.of ea).trans kac), hpa, kac _ _ (ea _ _ ho9) (by simp [nod]), hys, tda.kn (Kn.km kac (d9.mono ea)), (hwv.kt (Kt.of ea)).kt (Kn.km kac (d9.mono ea)).kt⟩
  · rintro i σ' H' _ ⟨_, _, _, _, _, _, _, h, _⟩
    exact .inl (.inl h)
  · rintro k x σ' H' hx ⟨z8, z9, z10, W, rfl, dd, kk, hpa', ho', hys', tdd, hwv'⟩
    have npd : pa ≠ da := ((d9.mono ea).mono eb).ne npa
    have npo : pa ≠ oa := fun z => by
      rw [z, eb _ _ (ea _ _ ho9)] at npa
      cases npa
    obtain ⟨i, j, qq, rfl, hq, hi, hj⟩ := hys' x (List.mem_of_getElem? hx)
    refine gw_tup (n := 2) (SqT.of hq) (gws_cons (gw_name 8 (gws_cons (gw_name 9 (gws_nil ?_)))))
    refine bw_cons (sw_set 10 (EVgo (ev_name 6) fun Hd ed => ?_))
    refine bw_cut (fun σ2 H2 => ∃ w2, σ2 = [some (.ref da), some (.int 3), some (.int 7), some (.int (n : Int)), some (.ref oa), some (.int al), some wv, some (.ref td), some (iV i), some (iV j), some w2] ∧ DrAt H2 da ∧ Km [da] H' H2 ∧ WtV K w2 H2) (sw_ifV (tv_gt (ev_name 5) ev_int) (fun _ He ee => ?_) (fun _ He ee => bw_nil ⟨wv, rfl, (dd.mono ed).mono ee, Km.of (ed.trans ee), (hwv'.kt (Kt.of (ed.trans ee)))⟩)) ?_
    · exact bw_one (sw_set 10 (ew_call hw hr (AVgo (av_cons (ev_name 0) av_nil) fun Hf ef => ⟨da, rfl, ((dd.mono ed).mono ee).mono ef, fun w2 Hg dg kg hw2 => ⟨w2, rfl, dg, (Km.of ((ed.trans ee).trans ef)).trans kg, hw2⟩⟩)))
    · rintro σ2 He ⟨w2, rfl, de, ke, m, hm, gm⟩
      have kn : Kn H' He := Kn.km ke dd
      have hpe : He pa = some (.lst ys) := ke _ _ hpa' (by simp [npd])
      have hoe : He oa = some (.lst (os.map iV)) := ke _ _ ho' (by simp [nod])
      have tde := tdd.kn kn
      refine bw_one (sw_ifV (tv_ne (ev_name 8) (ev_name 9)) (fun hne Hf ef => ?_) (fun _ Hf ef => bw_nil ⟨_, _, _, W, rfl, de.mono ef, kk.trans (ke.trans (Km.of ef)), ef _ _ hpe, ef _ _ hoe, (fun y hy => ((hys' y hy).kt kn.kt).kt (Kt.of ef)), tde.kn (Kn.of ef), (hwv'.kt kn.kt).kt (Kt.of ef)⟩))
      have hij : i ≠ j := fun z => by
        subst z
        simp at hne
      obtain ⟨a, ga, han⟩ := hog i hi
      obtain ⟨b, gb, hbn⟩ := hog j hj
      have hab := hone ga gb hij
      obtain ⟨m1, m2⟩ := minmax hab han hbn
      have ga' : (os.map iV)[i]? = some (iV a) := by rw [List.getElem?_map, ga]; rfl
      have gb' : (os.map iV)[j]? = some (iV b) := by rw [List.getElem?_map, gb]; rfl
      refine bw_one (sw_dput hu (EVgo (ev_name 10) fun Hg eg => EVgo (ev_name 7) fun Hh eh => EUgo (evu_tup (vs := [iV (min a b), iV (max a b)]) ?_ (Nat.le_of_ble_eq_true rfl)) fun kt Hi nkt ei hkt => ?_))
      · exact av_cons (ev_is (ev_min2 T.b.b_min (ev_ixLn i (ev_name 4) (ev_name 8) (.inl (.inl ((ef.trans (eg.trans eh)) _ _ hoe))) ga') (ev_ixLn j (ev_name 4) (ev_name 9) (.inl (.inl ((ef.trans (eg.trans eh)) _ _ hoe))) gb')) (by show V.int _ = V.int _; congr 1; omega)) (av_cons (ev_is (ev_max2 T.b.b_max (ev_ixLn i (ev_name 4) (ev_name 8) (.inl (.inl ((ef.trans (eg.trans eh)) _ _ hoe))) ga') (ev_ixLn j (ev_name 4) (ev_name 9) (.inl (.inl ((ef.trans (eg.trans eh)) _ _ hoe))) gb')) (by show V.int _ = V.int _; congr 1; omega)) av_nil)
      · have ex : Ex He Hi := (ef.trans (eg.trans eh)).trans ei
        obtain ⟨Hj, hput, tdj, kj⟩ := (tde.kn (Kn.of ex)).put m1 m2 hn7 hkt (hm.kt (Kt.of ex)) gm
        have ktd : ∃ kvs, Hi td = some (.dT kvs) := let ⟨kvs, _, h, _⟩ := (tde.kn (Kn.of ex)).ob; ⟨kvs, h⟩
        obtain ⟨kvs, hkv⟩ := ktd
        have ktj : Kt Hi Hj := kj.kt fun m hm ys z => by
          rw [List.mem_singleton.mp hm, hkv] at z
          cases z
        have keep : ∀ {p : Addr} {xs : List V}, Hi p = some (.lst xs) → Hj p = some (.lst xs) := fun {p xs} h => kj _ _ h fun z => by
          rw [List.mem_singleton.mp z, hkv] at h
          cases h
        refine ⟨td, Hj, rfl, hput, _, _, _, setW W (min a b) (max a b) m, rfl, ?_, (kk.trans (ke.trans (Km.of ex))).drop kj (by simp [ntH]), keep (ex _ _ hpe), keep (ex _ _ hoe), fun y hy => (((hys' y hy).kt kn.kt).kt (Kt.of ex)).kt ktj, tdj, ((hwv'.kt kn.kt).kt (Kt.of ex)).kt ktj⟩
        obtain ⟨ds, x1, x2⟩ := de.mono ex
        exact ⟨ds, x1, keep x2⟩
  · rintro σ' H' ⟨z8, z9, z10, W, rfl, dd, kk, hpa', ho', hys', tdd, hwv'⟩
    refine bw_one (sw_ret (EUgo (evu_tup (av_cons (ev_name 3) (av_cons (ev_name 7) av_nil))) fun t Hd nt ed ht => q t td n W Hd (dd.mono ed) (kk.trans (Km.of ed)) ht hn3 hn7 (tdd.kn (Kn.of ed))))
end
end Cut


namespace Cut
open PySem PySem.Spec PyProof.Rows L2 Evl
/-! ### rows of ties, parts -/
/-- a comprehension over a list, what comes are lists: they are told apart from the new list itself -/
theorem lc_seqD {X : Cx} {scope : Scope} {σ : L2.St} {H : Hp} {elt tg iter : Expr} {Q : VK} {α : Type} {l : List α} {R : Addr → α → V → Hp → Prop} {vs : List Nat} {Fx : α → V → Hp → Prop} {sg : α → V → L2.St} {p : Addr} {xs : List V} (h : EV X iter σ H (.ref p)) (hx : SqL X.K H p xs) (hl : l.length = xs.length) (hz : xs.length ≤ 40000)
    (hy : ∀ (i : Nat) a x H2, l[i]? = some a → xs[i]? = some x → Ex H H2 → Fx a x H2)
    (hg : ∀ a ∈ l, ∀ x H2, Ex H H2 → Fx a x H2 → ∀ s0 H0 C cl fp, GV (Bk X scope s0 H0 C cl fp) tg x (wipe σ vs) H2 (sg a x)) (hw : ∀ a x, wipe (sg a x) vs = wipe σ vs)
    (he : ∀ a ∈ l, ∀ x H2 D, Ex H H2 → Fx a x H2 → H2 D ≠ none → ∀ s0 H0 C cl fp, EX (EW (Bk X scope s0 H0 C cl fp) elt) (sg a x) H2 (R D a)) (hR : ∀ D a y H1 H2, R D a y H1 → Km [D] H1 H2 → R D a y H2)
    (hd : ∀ p ys H', H p = none → Ex H H' → H' p = some (.lst ys) → AllR (R p) l ys H' → Q (.ref p) H') : tLc (IW X tg iter) (GB X scope tg) tYes (EB X scope elt) vs σ H Q :=
  lcL h hx (fun D i H' => H D = none ∧ Ex H H' ∧ ∃ ys, H' D = some (.lst ys) ∧ AllR (R D) (l.take i) ys H') (fun D H1 e1 hD => ⟨Evl.fresh_back e1 hD, Ex.mut e1 (Evl.fresh_back e1 hD), [], upd_same, AllR.nil⟩) (fun D i H' p => Evl.ex_l p.2.1 hx) (fun D i x H' hi ⟨p1, p2, ys, p3, p4⟩ => by
    obtain ⟨a, ha⟩ : ∃ a, l[i]? = some a := ⟨_, List.getElem?_eq_getElem (by have := (List.getElem?_eq_some_iff.mp hi).1; omega)⟩
    have hm := List.mem_of_getElem? ha
    intro s0 H0 C cl fp
    refine hg a hm x H' p2 (hy i a x H' ha hi p2) s0 H0 C cl fp H' (Ex.refl _) _ fun H2 e2 => ⟨hw a x, yes_of fun s0 H0 C cl fp => ?_⟩
    refine he a hm x H2 D (p2.trans e2) (hy i a x H2 ha hi (p2.trans e2)) (by rw [e2 _ _ p3]; exact fun z => by cases z) s0 H0 C cl fp H2 (Ex.refl _) _ fun y H4 e4 r4 => ?_
    have h4 := e4 _ _ (e2 _ _ p3)
    have k5 : ∀ {Hx : Hp}, Ex Hx H4 → Km [D] Hx (upd H4 D (.lst (ys ++ [y]))) := fun {Hx} e => (Km.of e).upd (by simp)
    refine ⟨ys, h4, ?_, p1, Ex.mut ((p2.trans e2).trans e4) p1, ys ++ [y], upd_same, ?_⟩
    · rw [p4.1, List.length_take]
      exact Evl.sz_lt (by omega)
    · rw [take_snoc ha]
      exact AllR.snoc ⟨p4.1, fun k b z h1 h2 => hR _ _ _ _ _ (p4.2 k b z h1 h2) (k5 (e2.trans e4))⟩ (hR _ _ _ _ _ r4 (k5 (Ex.refl _)))) (fun D H' ⟨p1, p2, ys, p3, p4⟩ => by
    rw [← hl, List.take_length] at p4
    exact hd D ys H' p1 p2 p3 p4)
def rowOf (W : Mx) (kv : List Key × V) : Rw := ((kPr kv.1).1, (kPr kv.1).2, (W (kPr kv.1).1 (kPr kv.1).2).toNat)
section
variable {K : PySem.W.Frag} {H : Hp} {n : Nat} {W : Mx} {kvs : List (List Key × V)} {g : Nat → Nat → Option V}
theorem td_at (h2 : Pd n kvs g) (h3 : ∀ i j v, g i j = some v → i < j ∧ ∃ m, Amt K H v m ∧ Gw m ∧ W i j = ((m : Nat) : Int)) {kv : List Key × V} (hk : kv ∈ kvs) : ∃ i j m, kPr kv.1 = (i, j) ∧ kv.1 = kp i j ∧ i < j ∧ j < n ∧ Amt K H kv.2 m ∧ Gw m ∧ W i j = (m : Int) ∧ rowOf W kv = (i, j, m) ∧ valV kvs (kp i j) = some kv.2 := by
  obtain ⟨i, j, hi, hj, ek, ev⟩ := h2.mem hk
  obtain ⟨a, m, b, c, e⟩ := h3 i j _ ev
  have e1 : kPr kv.1 = (i, j) := by rw [ek, kPr_kp]
  refine ⟨i, j, m, e1, ek, a, hj, b, c, e, ?_, by rw [h2.val]; exact ev⟩
  unfold rowOf
  rw [e1]
  show (i, j, (W i j).toNat) = _
  rw [e, Int.toNat_natCast]
theorem td_tiex (h2 : Pd n kvs g) (h3 : ∀ i j v, g i j = some v → i < j ∧ ∃ m, Amt K H v m ∧ Gw m ∧ W i j = ((m : Nat) : Int)) (h4 : ∀ i j, i < j → j < n → g i j = none → W i j = 0) (w : Wok W) (hn : 1 ≤ n ∧ n ≤ 7) : TieX n W (kvs.map (rowOf W)) := by
  refine ⟨⟨fun t ht => ?_, ?_⟩, ⟨fun t ht => ?_, fun i j hij hj hne => ?_⟩, w, hn⟩
  · obtain ⟨kv, hk, rfl⟩ := List.mem_map.mp ht
    obtain ⟨i, j, m, _, _, a, b, _, c, _, e, _⟩ := td_at h2 h3 hk
    rw [e]
    exact ⟨a, b, c.le⟩
  · rw [List.map_map]
    exact (keys_nd h2).1
  · obtain ⟨kv, hk, rfl⟩ := List.mem_map.mp ht
    obtain ⟨i, j, m, _, _, _, _, _, _, c, e, _⟩ := td_at h2 h3 hk
    rw [e]
    exact c
  · cases e : g i j with
    | none => exact absurd (h4 i j hij hj e) hne
    | some v =>
      have hm := h2.of e
      refine ⟨(W i j).toNat, List.mem_map.mpr ⟨_, hm, ?_⟩⟩
      unfold rowOf
      rw [kPr_kp]
end
/-- rows of lists: the amounts' lists are found -/
def LiR (D : Addr) (t : RwA) (y : V) (H : Hp) : Prop := ∃ q c, y = .ref q ∧ q ≠ D ∧ c ≠ D ∧ H q = some (.lst [iV t.1.1, iV t.1.2.1, .ref c]) ∧ H c = some (.lst [.int (loA t.1.2.2 : Nat), .int (loB t.1.2.2 : Nat)])
theorem tieR_of {K : PySem.W.Frag} {H : Hp} {D : Addr} : ∀ {rs : List RwA} {ys : List V}, AllR (LiR D) rs ys H → ∃ rs' : List RwA, rs'.map Prod.fst = rs.map Prod.fst ∧ AllR (TieR K) rs' ys H
  | [], [], _ => ⟨[], rfl, AllR.nil⟩
  | [], y :: ys, h => by cases h.1
  | a :: l, [], h => by cases h.1
  | a :: l, y :: ys, h => by
    obtain ⟨q, c, e, _, _, h1, h2⟩ := h.2 0 a y rfl rfl
    obtain ⟨rs, e1, h3⟩ := tieR_of (K := K) (rs := l) (ys := ys) ⟨Nat.succ.inj h.1, fun k b z h3 h4 => h.2 (k + 1) b z h3 h4⟩
    refine ⟨(a.1, c) :: rs, by rw [List.map_cons, List.map_cons, e1], by rw [List.length_cons, List.length_cons, h3.1], fun k t z hk hz => ?_⟩
    cases k with
    | zero =>
      have e2 : (a.1, c) = t := Option.some.inj hk
      have e3 : y = z := Option.some.inj hz
      rw [← e2, ← e3]
      exact ⟨q, e, .inl (.inl (.inl h1)), .inl (.inl (.inl h2))⟩
    | succ k => exact h3.2 k t z hk hz
section
variable {P : Program} {w : World} {K : PySem.W.Frag} {mg : Str → Option Value} {base : Heap} {CR CW CN CH : Addr}
def spRows (K : PySem.W.Frag) : Sp := fun vs H Q _ => ∃ (da td : Addr), vs = [.ref da, .ref td] ∧ DrAt H da ∧ ∃ n W, (1 ≤ n ∧ n ≤ 7) ∧ TdAt K H td n W ∧ ∀ (v : V) (rs : List RwA) H', DrAt H' da → Km [da] H H' → TiS K H' v rs → TieX n W (rs.map Prod.fst) → Q v H'
/-! _law_rows: slots 0 _law_draws_here, 1 _law_ties, 2 _law_rows_here, 3 _law_i, 4 _law_j, 5 _law_weight_here -/
theorem sc_law_rows : FnScope ["_law_draws_here", "_law_ties", "_law_rows_here", "_law_i", "_law_j", "_law_weight_here"] ["_law_draws_here", "_law_ties"] (defScope s_law_rows) := ⟨rfl, rfl, rfl, by decide +kernel, rfl, by decide +kernel, by decide +kernel⟩
theorem ok_law_rows (T : Tops K mg CR CW CN CH) (hn : Has P w K mg base 1 "_law_next" ["_law_draws_here"] spNext) : Has P w K mg base 2 "_law_rows" ["_law_draws_here", "_law_ties"] (spRows K) := by
  refine has_of (k := 1) T.law_rows sc_law_rows (fun _ _ _ _ _ _ us hl => match us, hl with | [_, _], _ => rfl) (fun vs H Q E h => by
    obtain ⟨da, td, rfl, _⟩ := h
    rfl) ?_
  intro f cdv A outer s H0 H vs Q E E0 hr h
  obtain ⟨da, td, rfl, hd, n, W, hn7, htd, q⟩ := h
  have nd := (sc_law_rows).nd
  have hu := hu_of hr
  obtain ⟨⟨kvs, g, h1, h2, h3, h4⟩, hok⟩ := htd
  have hX := td_tiex h2 h3 h4 hok hn7
  have hz : kvs.length ≤ 49 := Nat.le_trans h2.len (Nat.mul_le_mul hn7.2 hn7.2)
  have ntd : td ≠ da := fun z => by
    obtain ⟨ds, _, hx⟩ := hd
    rw [z, hx] at h1
    cases h1
  have kfz : ∀ {o : HO}, Kt H (upd H td o) := Kt.upd fun xs z => by
    rw [h1] at z
    cases z
  refine bw_cons (sw_lock td (.dT kvs) h1 trivial fun od => sw_setLc 2 (own := [("_law_i", 3), ("_law_j", 4)]) (lc_of (iw_K (EVgo (ev_name 1) fun H1 e1 => ⟨td, od, rfl, .inr ⟨kvs, e1 _ _ upd_same, ?_⟩⟩))))
  refine lc_goX (l := kvs) (pf := fun _ => true) (Fx := fun kv x H => ∃ q, x = .ref q ∧ H q = some (.tup [iV (kPr kv.1).1, iV (kPr kv.1).2])) (R := fun kv y H => RowR K (rowOf W kv) y H) (sg := fun kv _ => [some (.ref da), some (.ref td), none, some (iV (kPr kv.1).1), some (iV (kPr kv.1).2), none]) walk_keysT (fun H2 e2 => e2 _ _ (e1 _ _ upd_same)) rfl (by omega) ?_ ?_ ?_ (fun _ _ => rfl) (fun _ _ _ _ _ _ => et_yes) ?_ (fun a y H1 H2 h k => h.kt k) ?_
  · rintro i a x H2 H3 ha e2 ⟨rfl, k, v, qq, e, rfl, hq⟩
    rw [ha] at e
    cases e
    obtain ⟨i, j, m, ek, ek2, _⟩ := td_at h2 h3 (List.mem_of_getElem? ha)
    refine ⟨Ex.refl _, qq, rfl, ?_⟩
    replace ek : kPr k = (i, j) := ek
    replace ek2 : k = kp i j := ek2
    show H3 qq = some (.tup [iV (kPr k).1, iV (kPr k).2])
    rw [ek]
    rw [ek2] at hq
    exact hq
  · rintro a x H2 H3 ⟨qq, rfl, hq⟩ e
    exact ⟨qq, rfl, e _ _ hq⟩
  · rintro a ha x H2 e2 ⟨qq, rfl, hq⟩ s0 H0 C cl fp
    exact gv_tup2 (.inl (.inl hq)) (gv_name 3) (gv_name 4)
  · rintro a ha _ x H2 e2 ⟨qq, rfl, hq⟩ s0 H0 C cl fp
    obtain ⟨i, j, m, ek, ek2, hij, hj, ⟨pa, hpa, htp⟩, gm, hW, hro, hval⟩ := td_at h2 h3 ha
    intro H3 e3 Q' q'
    have q2 : ∀ v H2, Ex H3 H2 → RowR K (i, j, m) v H2 → Q' v H2 := fun v H2 e r => q' v H2 e (by
      show RowR K (rowOf W a) v H2
      rw [hro]
      exact r)
    rw [ek]
    refine ew_tup (AVgo (av_cons (ev_name 3) (av_cons (ev_name 4) (av_cons (ev_itemT (k := kp i j) hu (ev_name 1) (evu_tup (av_cons (ev_name 3) (av_cons (ev_name 4) av_nil))) (.inr ⟨od, e3 _ _ (e2 _ _ (e1 _ _ upd_same))⟩) hval) av_nil))) fun H4 e4 => ⟨by show 3 ≤ sizeLine; decide, fun t nt => q2 _ _ (e4.trans (Ex.new nt)) ⟨t, pa, rfl, by rw [hpa]; exact upd_same, ?_⟩⟩)
    exact htp.kt (kfz.trans (Kt.of ((e1.trans e2).trans ((e3.trans e4).trans (Ex.new nt)))))
  · intro p ys H2 hp e2 hys hall
    refine ⟨e2 _ _ (e1 _ _ upd_same), ?_⟩
    have e3 : Ex H (upd H2 td (.dT kvs)) := Ex.unlock h1 (e1.trans e2)
    have npt : p ≠ td := fun z => by
      rw [z, e1 _ _ upd_same] at hp
      cases hp
    have kt2 : Kt H2 (upd H2 td (.dT kvs)) := Kt.upd fun xs z => by
      rw [e2 _ _ (e1 _ _ upd_same)] at z
      cases z
    have hp3 : (upd H2 td (.dT kvs)) p = some (.lst ys) := by
      rw [upd_ne npt]
      exact hys
    have hall3 : AllR (RowR K) (kvs.map (rowOf W)) ys (upd H2 td (.dT kvs)) := by
      rw [show kvs.filter (fun _ => true) = kvs from List.filter_eq_self.mpr fun _ _ => rfl] at hall
      refine ⟨by rw [List.length_map]; exact hall.1, fun k t y h1 h2 => ?_⟩
      rw [List.getElem?_map] at h1
      cases e : kvs[k]? with
      | none => rw [e] at h1; cases h1
      | some kv =>
        rw [e] at h1
        cases h1
        exact (hall.2 k kv y e h2).kt kt2
    have fp : H p = none := by
      have h6 := Evl.fresh_back e1 hp
      rw [upd_ne npt] at h6
      exact h6
    have hd3 : DrAt (upd H2 td (.dT kvs)) da := hd.mono e3
    have npd : p ≠ da := hd.ne fp
    generalize upd H2 td (.dT kvs) = H3 at e3 hp3 hall3 hd3
    obtain ⟨rs, hrs, hallA⟩ := rowA_of hall3
    refine bw_cons (sw_if (tw_eqI (ew_modI (ew_next hn hr (ev_name 0) hd3 fun v H4 d4 k4 => ⟨_, rfl, EVgo ev_int fun H5 e5 => ⟨2, rfl, by decide, _, rfl, EVgo ev_int fun H6 e6 => ⟨0, rfl, ?_⟩⟩⟩))))
    have k36 : Km [da] H3 H6 := k4.trans (Km.of (e5.trans e6))
    have kn := Kn.km k36 hd3
    have hp6 := k36 _ _ hp3 (by simp [npd])
    have hallA6 : AllR (RowA K) rs ys H6 := hallA.imp fun a y r => r.kt kn.kt
    have k06 : Km [da] H H6 := (Km.of e3).trans k36
    have d6 : DrAt H6 da := (d4.mono e5).mono e6
    have hrl : rs.length = ys.length := hallA.1.symm
    have hyl : ys.length ≤ 49 := by
      rw [hall3.1, List.length_map]
      exact hz
    refine ite2 (fun _ => ?_) (fun _ => bw_nil ?_)
    · refine bw_one (sw_ret (ew_lc (own := [("_law_i", 3), ("_law_j", 4), ("_law_weight_here", 5)]) (lc_seqD (l := rs) (Fx := fun t x H => RowA K t x H) (R := LiR) (sg := fun t x => [some (.ref da), some (.ref td), some (.ref p), some (iV t.1.1), some (iV t.1.2.1), some (.ref t.2)]) (ev_name 2) (.inl (.inl hp6)) hrl (by omega) (fun i t x H2 ht hx e2 => (hallA6.2 i t x ht hx).kt (Kt.of e2)) ?_ (fun _ _ => rfl) ?_ ?_ ?_)))
      · rintro t _ x H7 e7 ⟨qq, rfl, hq, hT⟩ s0 H0 C cl fp
        exact gv_tup3 (SqT.of hq) (gv_name 3) (gv_name 4) (gv_name 5)
      · rintro t _ x H7 D e7 ⟨qq, rfl, hq, hT⟩ hD s0 H0 C cl fp
        intro H8 e8 Q' q'
        refine ew_lst (aw_cons (EVgo (ev_name 3) fun H9 e9 => aw_cons (EVgo (ev_name 4) fun Ha ea => aw_cons (ew_Ty call_list_of T.b.b_list (aw_cons (EVgo (ev_name 5) fun Hb eb => aw_nil ⟨t.2, _, rfl, .inr (hT.mono ((e8.trans e9).trans (ea.trans eb))).sq, fun c nc => aw_nil ⟨by show 3 ≤ sizeLine; decide, fun q2 nq => ?_⟩⟩))))))
        have x8b := (e9.trans ea).trans eb
        refine q' _ _ ((x8b.trans (Ex.new nc)).trans (Ex.new nq)) ⟨q2, c, rfl, fun z => hD ?_, fun z => hD ?_, upd_same, Ex.new nq _ _ upd_same⟩
        · rw [← z]
          exact Evl.fresh_back (e8.trans (x8b.trans (Ex.new nc))) nq
        · rw [← z]
          exact Evl.fresh_back (e8.trans x8b) nc
      · rintro D t y H1 H2 ⟨qq, c, h1, h2, h3, h4, h5⟩ k
        exact ⟨qq, c, h1, h2, h3, k _ _ h4 (by simp [h2]), k _ _ h5 (by simp [h3])⟩
      · intro p2 ys2 H7 np2 e7 hp2 hall2
        obtain ⟨rs', hrs', hall4⟩ := tieR_of (K := K) hall2
        exact q (.ref p2) rs' H7 (d6.mono e7) (k06.trans (Km.of e7)) ⟨p2, ys2, rfl, .inl (.inl (.inl hp2)), hall4⟩ (by rw [hrs', hrs]; exact hX)
    · refine bw_one (sw_ret (ew_Ty call_tuple_of T.b.b_tuple (aw_cons (EVgo (ev_name 2) fun H7 e7 => aw_nil ⟨p, ys, rfl, .inl ⟨.inl (.inl (e7 _ _ hp6)), fun t nt => ?_⟩⟩))))
      have x6 := e7.trans (Ex.new nt (o := .tup ys))
      exact q (.ref t) rs _ (d6.mono x6) (k06.trans (Km.of x6)) ⟨t, ys, rfl, .inr (SqT.of upd_same), hallA6.imp fun a y ⟨q2, a1, a2, a3⟩ => ⟨q2, a1, .inr (SqT.of (x6 _ _ a2)), .inr (a3.mono x6).sq⟩⟩ (by rw [hrs]; exact hX)
end
/-! ### parts -/
section
variable {P : Program} {w : World} {K : PySem.W.Frag} {mg : Str → Option Value} {base : Heap} {CR CW CN CH : Addr}
def spPts (K : PySem.W.Frag) : Sp := fun vs H Q _ => ∃ (td : Addr), vs = [.ref td] ∧ ∃ n W, n ≤ 7 ∧ TdAt K H td n W ∧ ∀ fd H', Ex H H' → H fd = none → DnAt H' fd n W → Q (.ref fd) H'
theorem div_lo (m : Nat) : 0 ≤ (55440 : Int) / (loB m : Int) ∧ (55440 : Int) / (loB m : Int) ≤ 55440 := by
  have h3 : (55440 : Int) / (loB m : Int) = ((55440 / loB m : Nat) : Int) := rfl
  rw [h3]
  exact ⟨Int.natCast_nonneg _, Int.ofNat_le.mpr (Nat.div_le_self _ _)⟩
theorem mul_lo (m : Nat) : (loA m : Int) * ((55440 : Int) / (loB m : Int)) = (m : Int) := by
  have h4 : (loA m : Int) * ((55440 : Int) / (loB m : Int)) = ((loA m * (55440 / loB m) : Nat) : Int) := rfl
  rw [h4, lo_parts]
theorem div_loC (m : Nat) : CDiv 55440 (loB m : Int) := by
  have h1 := loB_pos m
  have h2 := loB_le m
  exact ⟨by omega, by omega⟩
/-! _law_parts: slots 0 _law_ties, 1 _law_found, 2 _law_i, 3 _law_j -/
theorem sc_law_parts : FnScope ["_law_ties", "_law_found", "_law_i", "_law_j"] ["_law_ties"] (defScope s_law_parts) := ⟨rfl, rfl, rfl, by decide +kernel, rfl, by decide +kernel, by decide +kernel⟩
theorem ok_law_parts (T : Tops K mg CR CW CN CH) : Has P w K mg base 1 "_law_parts" ["_law_ties"] (spPts K) := by
  refine has_of (k := 0) T.law_parts sc_law_parts (fun _ _ _ _ _ _ us hl => match us, hl with | [_], _ => rfl) (fun vs H Q E h => by
    obtain ⟨td, rfl, _⟩ := h
    rfl) ?_
  intro f cdv A outer s H0 H vs Q E E0 hr h
  obtain ⟨td, rfl, n, W, hn7, ⟨⟨kvs, g, h1, h2, h3, h4⟩, hok⟩, q⟩ := h
  have nd := (sc_law_parts).nd
  have hu := hu_of hr
  refine bw_cons (sw_set 1 (ew_of pe_dnewT fun fd nfd => ?_))
  have hfd : (upd H fd (.dT [])) fd = some (.dT []) := upd_same
  have e1 : Ex H (upd H fd (.dT [])) := Ex.new nfd
  have nft : fd ≠ td := fun z => by
    rw [z, h1] at nfd
    cases nfd
  have h1' := e1 _ _ h1
  generalize upd H fd (.dT []) = H1 at hfd e1 h1'
  have kfz : ∀ {o : HO}, Kt H1 (upd H1 td o) := Kt.upd fun xs z => by
    rw [h1'] at z
    cases z
  refine bw_cons (sw_forK (d := td) (kvs := kvs) PassesOwn.never h1' (fun od => ev_name 0) (fun od k σ' H' => ∃ (z2 z3 : Option V) (fk : List (List Key × V)) (ff : Nat → Nat → Option V), σ' = [some (.ref td), some (.ref fd), z2, z3] ∧ H' td = some (.frz od (.dT kvs)) ∧ Km [fd] (upd H1 td (.frz od (.dT kvs))) H' ∧ H' fd = some (.dT fk) ∧ Pd n fk ff ∧ (∀ a b v, ff a b = some v → v = .int (W a b)) ∧ ∀ k' < k, ∀ kv, kvs[k']? = some kv → ff (kPr kv.1).1 (kPr kv.1).2 ≠ none ∧ ff (kPr kv.1).2 (kPr kv.1).1 ≠ none) ?_ ?_ ?_ ?_)
  · intro od H2 e2
    exact ⟨none, none, [], fun _ _ => none, rfl, e2 _ _ upd_same, Km.of e2, e2 _ _ (by rw [upd_ne nft]; exact hfd), Pd.nil n, (fun a b v h => nomatch h), fun k' hk => absurd hk (Nat.not_lt_zero _)⟩
  · rintro od i σ' H' ⟨_, _, _, _, _, h, _⟩
    exact h
  · rintro od k key v qq σ' H' hk hq ⟨z2, z3, fk, ff, rfl, htd', km, hfd', hpd, hff, hall⟩
    obtain ⟨i, j, m, ek, ek2, hij, hj, ⟨pa, hpa, htp⟩, gm, hW, hro, hval⟩ := td_at h2 h3 (List.mem_of_getElem? hk)
    replace ek2 : key = kp i j := ek2
    replace hpa : v = .ref pa := hpa
    subst ek2
    have kt' : Kt H H' := (Kt.of e1).trans (kfz.trans (km.kt fun p hp ys z => by
      rw [List.mem_singleton.mp hp, upd_ne nft, hfd] at z
      cases z))
    have htp' := htp.kt kt'
    replace hval : valV kvs (kp i j) = some v := hval
    rw [hpa] at hval
    refine gw_tup (n := 2) (SqT.of hq) (gws_cons (gw_name 2 (gws_cons (gw_name 3 (gws_nil ?_)))))
    -- found[(i, j)] = ..
    refine bw_cons (sw_dput hu (EVgo (ev_is (w := .int (W i j)) (ev_mul (ev_ixTn (v := .int (loA m : Nat)) 0 (ev_itemT (k := kp i j) (v := .ref pa) hu (ev_name 0) (evu_tup (av_cons (ev_name 2) (av_cons (ev_name 3) av_nil))) (.inr ⟨od, htd'⟩) hval) ev_int htp'.sq rfl) (ev_fdiv ev_int (ev_ixTn (v := .int (loB m : Nat)) 1 (ev_itemT (k := kp i j) (v := .ref pa) hu (ev_name 0) (evu_tup (av_cons (ev_name 2) (av_cons (ev_name 3) av_nil))) (.inr ⟨od, htd'⟩) hval) ev_int htp'.sq rfl) (div_loC m)) (cmulR (div_lo m))) (by rw [mul_lo, hW])) fun H2 e2 => EVgo (ev_name 1) fun H3 e3 => EUgo (evu_tup (av_cons (ev_name 2) (av_cons (ev_name 3) av_nil))) fun kt H4 nkt e4 hkt => ⟨fd, _, rfl, DPut.t (k := kp i j) (((e2.trans e3).trans e4) _ _ hfd') hkt (hpd.small (by omega)), ?_⟩))
    have x4 := (e2.trans e3).trans e4
    have km5 : Km [fd] (upd H1 td (.frz od (.dT kvs))) (upd H4 fd (.dT (putK fk (kp i j) (.int (W i j))))) := (km.trans (Km.of x4)).upd (by simp)
    have h5t : (upd H4 fd (.dT (putK fk (kp i j) (.int (W i j))))) td = some (.frz od (.dT kvs)) := by
      rw [upd_ne (Ne.symm nft)]
      exact x4 _ _ htd'
    have h5f : (upd H4 fd (.dT (putK fk (kp i j) (.int (W i j))))) fd = some (.dT (putK fk (kp i j) (.int (W i j)))) := upd_same
    have hpd5 := hpd.put (show i < n by omega) hj (.int (W i j))
    generalize upd H4 fd (.dT (putK fk (kp i j) (.int (W i j)))) = H5 at km5 h5t h5f
    -- found[(j, i)] = found[(i, j)]
    refine bw_one (sw_dput hu (EVgo (ev_itemT (k := kp i j) (v := .int (W i j)) hu (ev_name 1) (evu_tup (av_cons (ev_name 2) (av_cons (ev_name 3) av_nil))) (.inl h5f) (by rw [hpd5.val]; simp)) fun H6 e6 => EVgo (ev_name 1) fun H7 e7 => EUgo (evu_tup (av_cons (ev_name 3) (av_cons (ev_name 2) av_nil))) fun kt2 H8 nkt2 e8 hkt2 => ⟨fd, _, rfl, DPut.t (k := kp j i) (((e6.trans e7).trans e8) _ _ h5f) hkt2 (hpd5.small (by omega)), ?_⟩))
    have x8 := (e6.trans e7).trans e8
    refine ⟨_, _, _, _, rfl, by rw [upd_ne (Ne.symm nft)]; exact x8 _ _ h5t, (km5.trans (Km.of x8)).upd (by simp), upd_same, hpd5.put hj (show i < n by omega) (.int (W i j)), fun a b u hu => ?_, fun k' hk' kv hkv => ?_⟩
    · by_cases c : a = j ∧ b = i
      · rw [if_pos c] at hu
        rw [← Option.some.inj hu, c.1, c.2, hok.sym]
      · rw [if_neg c] at hu
        by_cases c2 : a = i ∧ b = j
        · rw [if_pos c2] at hu
          rw [← Option.some.inj hu, c2.1, c2.2]
        · rw [if_neg c2] at hu
          exact hff a b u hu
    · by_cases c : k' = k
      · subst c
        rw [hk] at hkv
        cases hkv
        replace ek : kPr (kp i j) = (i, j) := ek
        show (if (kPr (kp i j)).1 = j ∧ _ then _ else _) ≠ none ∧ _
        rw [ek]
        show (if i = j ∧ j = i then some (V.int (W i j)) else if i = i ∧ j = j then some (V.int (W i j)) else ff i j) ≠ none ∧ (if j = j ∧ i = i then some (V.int (W i j)) else if j = i ∧ i = j then some (V.int (W i j)) else ff j i) ≠ none
        rw [if_neg (by omega), if_pos ⟨rfl, rfl⟩, if_pos ⟨rfl, rfl⟩]
        exact ⟨fun z => (by cases z), fun z => (by cases z)⟩
      · obtain ⟨a1, a2⟩ := hall k' (by omega) kv hkv
        have up : ∀ {a b : Nat}, ff a b ≠ none → (if a = j ∧ b = i then some (V.int (W i j)) else if a = i ∧ b = j then some (V.int (W i j)) else ff a b) ≠ none := fun {a b} h => by
          by_cases c1 : a = j ∧ b = i
          · rw [if_pos c1]
            exact fun z => by cases z
          · rw [if_neg c1]
            by_cases c2 : a = i ∧ b = j
            · rw [if_pos c2]
              exact fun z => by cases z
            · rw [if_neg c2]
              exact h
        exact ⟨up a1, up a2⟩
  · rintro od σ' H' ⟨z2, z3, fk, ff, rfl, htd', km, hfd', hpd, hff, hall⟩
    have km2 : Km [fd] H (upd H' td (.dT kvs)) := fun b o hb hbn => by
      by_cases c : b = td
      · rw [c] at hb ⊢
        rw [h1] at hb
        rw [upd_same]
        exact hb
      · rw [upd_ne c]
        exact km b o (by rw [upd_ne c]; exact e1 _ _ hb) hbn
    have ex : Ex H (upd H' td (.dT kvs)) := Km.nil ((Km.of (M := []) (Ex.refl H)).drop km2 (by simp [nfd]))
    have hdn : DnAt (upd H' td (.dT kvs)) fd n W := by
      refine ⟨fk, ff, by rw [upd_ne nft]; exact hfd', hpd, fun i j hi hj => ?_⟩
      cases e : ff i j with
      | some v => exact .inl (by rw [hff i j v e])
      | none =>
        refine .inr ⟨rfl, ?_⟩
        have key : ∀ a b, a < b → b < n → (ff a b = none ∨ ff b a = none) → W a b = 0 := fun a b hab hb hno => by
          cases e2 : g a b with
          | none => exact h4 a b hab hb e2
          | some v =>
            exfalso
            obtain ⟨k', hk'⟩ := List.mem_iff_getElem?.mp (h2.of e2)
            obtain ⟨a1, a2⟩ := hall k' (List.getElem?_eq_some_iff.mp hk').1 _ hk'
            rw [kPr_kp] at a1 a2
            rcases hno with hno | hno
            · exact a1 hno
            · exact a2 hno
        rcases Nat.lt_trichotomy i j with c | c | c
        · exact key i j c hj (.inl e)
        · rw [c]
          exact hok.dia j
        · rw [hok.sym]
          exact key j i c hi (.inr e)
    exact bw_one (sw_ret (EVgo (ev_name 1) fun H3 e3 => q fd H3 (ex.trans e3) nfd (hdn.mono e3)))
end
end Cut


namespace Cut
open PySem PySem.Spec PyProof.Rows L2 Evl
/-! ### weights anew, flows turned round, ends -/
section
variable {X : Cx} {σ : L2.St} {H : Hp} {pos p apos : Pos} {a b e f : Expr} {Q : VK}
/-- d.get(key, a new tuple) -/
theorem ew_get2U {d : Addr} {k : List Key} {kvs : List (List Key × V)} {zs : List V} (hu : X.A.units + 1 < cLine) (ho : EV X a σ H (.ref d)) (he : EVU X e σ H (k.map kV)) (hf : EVU X f σ H zs) (hd : H d = some (.dT kvs)) (q : ∀ z H1, Ex H H1 → H1 z = some (.tup zs) → Q ((valV kvs k).getD (.ref z)) H1)
    (m : M2 X a "get" apos e f pos := by exact ⟨rfl, rfl, rfl, rfl⟩) : EW X (.Call (.Attribute a "get" apos) [e, f] [] pos) σ H Q := ew_of (pe_dget2 hu pe_w pe_w pe_w m) (EVgo (te := EW X a) ho fun H2 e2 => ⟨d, rfl, .inr ⟨kvs, .inl (e2 _ _ hd)⟩, he H2 e2 _ fun c H3 _ e3 hb => hf H3 (e2.trans e3) _ fun z H4 _ e4 hz =>
    ⟨valV kvs k, DGet.t (e4 _ _ (e3 _ _ (e2 _ _ hd))) (e4 _ _ hb), q z H4 ((e2.trans e3).trans e4) hz⟩⟩)
/-- sorted(places) -/
theorem ew_sortN (hm : X.mg "sorted" = none) (h : EW X e σ H fun x H1 => ∃ (c : Addr) (ps : List Nat), x = .ref c ∧ SqL X.K H1 c (ps.map iV) ∧ ps.length < 64 ∧ ∀ (l : List Nat) (d : Addr), l.Perm ps → (l.map fun x : Nat => (x : Int)).Pairwise (· ≤ ·) → H1 d = none → Q (.ref d) (upd H1 d (.lst (l.map iV)))) (hg : Gl X "sorted" := by rfl) (hs : starEach [e] X.env = (false, eval e X.env) :: starEach [] X.env := by rfl) : EW X (.Call (.Name "sorted" p) [e] [] pos) σ H Q :=
  ew_B cr_sorted hm (aw_cons (EW.mono h fun x H1 ⟨c, ps, e1, h1, h2, q⟩ => aw_nil ⟨c, ps.map fun x : Nat => (x : Int), by rw [e1], by rw [← iV_map]; exact h1, by rw [List.length_map]; exact h2, fun ns' d hp hs nd => by
    obtain ⟨l, e2, hl⟩ := perm_nat hp
    subst e2
    have := q l d hl hs nd
    rw [iV_map] at this
    exact this⟩) hs) (by decide +kernel) hg (by decide) (by decide) hs
end
def negM (F : Mx) : Mx := fun i j => - F i j
theorem negM_anti {F : Mx} (h : Anti F) : Anti (negM F) := fun i j => by
  have := h i j
  unfold negM
  omega
def h2K (i j : Nat) : Int := reduceHash (Builtin.Tuple.tupleHashOf [hashInt (i : Int), hashInt (j : Int)])
theorem h2K_all : (List.range 49).all (fun a => (List.range 49).all fun b => decide (a = b) || !decide (h2K (a / 7) (a % 7) = h2K (b / 7) (b % 7))) = true := by decide +kernel
theorem h2K_inj {i j a b : Nat} (hi : i < 7) (hj : j < 7) (ha : a < 7) (hb : b < 7) (h : h2K i j = h2K a b) : i = a ∧ j = b := by
  have h1 := List.all_eq_true.mp h2K_all (i * 7 + j) (List.mem_range.mpr (by omega))
  have h2 := List.all_eq_true.mp h1 (a * 7 + b) (List.mem_range.mpr (by omega))
  have e1 : (i * 7 + j) / 7 = i := by omega
  have e2 : (i * 7 + j) % 7 = j := by omega
  have e3 : (a * 7 + b) / 7 = a := by omega
  have e4 : (a * 7 + b) % 7 = b := by omega
  rw [e1, e2, e3, e4, h] at h2
  simp only [decide_true, Bool.not_true, Bool.or_false, decide_eq_true_eq] at h2
  omega
theorem hash_kp {P : Program} {w : World} (i j : Nat) : (tupleKind (mixKind P w)).hash (kp i j) = h2K i j := rfl
theorem hashes_nd {P : Program} {w : World} {n : Nat} {kvs : List (List Key × V)} {g : Nat → Nat → Option V} (h : Pd n kvs g) (hn : n ≤ 7) : (kvs.map fun kv => (tupleKind (mixKind P w)).hash kv.1).Nodup := by
  refine List.pairwise_map.mpr ((List.pairwise_map.mp h.nd).imp_of_mem fun {a b} ha hb hab e => hab ?_)
  obtain ⟨i, j, hi, hj, e1, _⟩ := h.mem ha
  obtain ⟨i', j', hi', hj', e2, _⟩ := h.mem hb
  rw [e1, e2, hash_kp, hash_kp] at e
  obtain ⟨rfl, rfl⟩ := h2K_inj (by omega) (by omega) (by omega) (by omega) e
  rw [e1, e2]
theorem end_num (n v : Nat) (hn : 3 ≤ n) : ∃ k : Nat, (if 1 + (if (v : Int) % 5 - 2 > 0 then (v : Int) % 5 - 2 else 0) < (n : Int) / 2 then 1 + (if (v : Int) % 5 - 2 > 0 then (v : Int) % 5 - 2 else 0) else (n : Int) / 2) = (k : Int) ∧ 1 ≤ k ∧ 2 * k ≤ n := by
  generalize hx : (if (v : Int) % 5 - 2 > 0 then (v : Int) % 5 - 2 else 0) = x
  have hx0 : 0 ≤ x := by
    rw [← hx]
    by_cases c : (v : Int) % 5 - 2 > 0
    · rw [if_pos c]; omega
    · rw [if_neg c]; exact Int.le_refl _
  by_cases c : 1 + x < (n : Int) / 2
  · rw [if_pos c]
    exact ⟨(1 + x).toNat, by omega, by omega, by omega⟩
  · rw [if_neg c]
    exact ⟨n / 2, rfl, by omega, by omega⟩
section
variable {P : Program} {w : World} {K : PySem.W.Frag} {mg : Str → Option Value} {base : Heap} {CR CW CN CH : Addr}
def spAmount (K : PySem.W.Frag) : Sp := fun vs H Q _ => ∃ m : Nat, vs = [.int (m : Int)] ∧ ∀ v H', Ex H H' → Amt K H' v m → Q v H'
/-! _law_amount: slots 0 _law_counted, 1 _law_one, 2 _law_other -/
theorem sc_law_amount : FnScope ["_law_counted", "_law_one", "_law_other"] ["_law_counted"] (defScope s_law_amount) := ⟨rfl, rfl, rfl, by decide +kernel, rfl, by decide +kernel, by decide +kernel⟩
theorem ok_law_amount (T : Tops K mg CR CW CN CH) : Has P w K mg base 1 "_law_amount" ["_law_counted"] (spAmount K) := by
  refine has_of (k := 0) T.law_amount sc_law_amount (fun _ _ _ _ _ _ us hl => match us, hl with | [_], _ => rfl) (fun vs H Q E h => by
    obtain ⟨m, rfl, _⟩ := h
    rfl) ?_
  intro f cdv A outer s H0 H vs Q E E0 hr h
  obtain ⟨m, rfl, q⟩ := h
  have nd := (sc_law_amount).nd
  refine bw_cons (sw_par (i := 1) (j := 2) (AVgo (av_cons (ev_name 0) (av_cons ev_int av_nil)) fun H1 e1 => ⟨_, _, rfl, ?_⟩))
  refine bw_cons (sw_while PassesOwn.never (fun σ H' => ∃ c d : Nat, σ = [some (.int (m : Int)), some (.int (c : Int)), some (.int (d : Int))] ∧ Nat.gcd c d = Nat.gcd m 55440 ∧ Ex H H') (fun σ _ => match σ with | [_, _, some (.int d)] => d.toNat | _ => 0) ⟨m, 55440, rfl, rfl, e1⟩ ?_)
  rintro σ H1 ⟨c, d, rfl, hg, e1⟩
  refine TVgo (tv_ne (ev_name 2) ev_int) fun H2 e2 => ?_
  refine ite2 (fun hd => ?_) (fun hd => ?_)
  · have hd : 0 < d := by
      by_cases c : d = 0
      · subst c
        simp at hd
      · omega
    refine bw_one (sw_par (i := 1) (j := 2) (AVgo (av_cons (ev_name 2) (av_cons (ev_mod (ev_name 1) (ev_name 2) (by omega)) av_nil)) fun H3 e3 => ⟨_, _, rfl, ⟨d, c % d, rfl, ?_, (e1.trans e2).trans e3⟩, ?_⟩))
    · rw [← hg, Nat.gcd_comm c d, Nat.gcd_rec d c, Nat.gcd_comm]
    · show (c % d : Int).toNat < (d : Int).toNat
      have := Nat.mod_lt c hd
      omega
  · have hd : d = 0 := by
      by_cases c : d = 0
      · exact c
      · refine absurd ?_ hd
        rw [decide_eq_false (fun z => c (by have := V.int.inj z; omega))]
        rfl
    subst hd
    rw [Nat.gcd_zero_right] at hg
    subst hg
    have gp := gcd_pos m
    have gl : Nat.gcd m 55440 ≤ 55440 := Nat.le_of_dvd (by decide) (Nat.gcd_dvd_right m 55440)
    exact bw_one (sw_ret (EUgo (evu_tup (av_cons (ev_fdiv (ev_name 0) (ev_name 1) ⟨by omega, by omega⟩) (av_cons (ev_fdiv ev_int (ev_name 1) ⟨by omega, by omega⟩) av_nil))) fun p H3 np e3 hp => q _ H3 ((e1.trans e2).trans e3) (Amt.new hp)))
def spNewW (K : PySem.W.Frag) : Sp := fun vs H Q _ => ∃ (da td : Addr) (i j : Nat), vs = [.ref da, .ref td, .int (i : Int), .int (j : Int)] ∧ DrAt H da ∧ ∃ n W, n ≤ 7 ∧ TdAt K H td n W ∧ i < n ∧ j < n ∧ i ≠ j ∧ ∀ v H', DrAt H' da → Km [da] H H' → WtV K v H' → Q v H'
/-! _law_new_weight: slots 0 _law_draws_here, 1 _law_ties, 2 _law_i, 3 _law_j, 4 _law_old, 5 _law_draw, 6 _law_some -/
theorem sc_law_new_weight : FnScope ["_law_draws_here", "_law_ties", "_law_i", "_law_j", "_law_old", "_law_draw", "_law_some"] ["_law_draws_here", "_law_ties", "_law_i", "_law_j"] (defScope s_law_new_weight) := ⟨rfl, rfl, rfl, by decide +kernel, rfl, by decide +kernel, by decide +kernel⟩
theorem ok_law_new_weight (T : Tops K mg CR CW CN CH) (hn : Has P w K mg base 1 "_law_next" ["_law_draws_here"] spNext) (ham : Has P w K mg base 1 "_law_amount" ["_law_counted"] (spAmount K)) : Has P w K mg base 2 "_law_new_weight" ["_law_draws_here", "_law_ties", "_law_i", "_law_j"] (spNewW K) := by
  refine has_of (k := 1) T.law_new_weight sc_law_new_weight (fun _ _ _ _ _ _ us hl => match us, hl with | [_, _, _, _], _ => rfl) (fun vs H Q E h => by
    obtain ⟨da, td, i, j, rfl, _⟩ := h
    rfl) ?_
  intro f cdv A outer s H0 H vs Q E E0 hr h
  obtain ⟨da, td, i, j, rfl, hd, n, W, hn7, htd, hi, hj, hij, q⟩ := h
  have nd := (sc_law_new_weight).nd
  have hu := hu_of hr
  obtain ⟨⟨kvs, g, h1, h2, h3, h4⟩, hok⟩ := htd
  refine bw_cons (sw_set 4 (ew_get2U (k := kp (min i j) (max i j)) hu (ev_name 1) (evu_tup (av_cons (ev_is (ev_min2 T.b.b_min (ev_name 2) (ev_name 3)) (by show V.int _ = V.int _; congr 1; omega)) (av_cons (ev_is (ev_max2 T.b.b_max (ev_name 2) (ev_name 3)) (by show V.int _ = V.int _; congr 1; omega)) av_nil))) (evu_tup (av_cons ev_int (av_cons ev_int av_nil))) h1 fun z H1 e1 hz => ?_))
  obtain ⟨ov, hov, m, ⟨pa, rfl, hpa⟩, gm⟩ : ∃ ov, (valV kvs (kp (min i j) (max i j))).getD (.ref z) = ov ∧ WtV K ov H1 := by
    refine ⟨_, rfl, ?_⟩
    rw [h2.val]
    cases e : g (min i j) (max i j) with
    | none => exact ⟨0, ⟨z, rfl, .inl hz⟩, gwS rfl⟩
    | some v =>
      obtain ⟨_, m, b, c, _⟩ := h3 _ _ v e
      exact ⟨m, b.mono e1, c⟩
  rw [hov]
  refine bw_cons (sw_set 5 (ew_next hn hr (ev_name 0) (hd.mono e1) fun v H2 d2 k2 => ?_))
  have hpa2 : Tp K H2 pa [.int (loA m : Nat), .int (loB m : Nat)] := hpa.kt (Kn.km k2 (hd.mono e1)).kt
  have k02 : Km [da] H H2 := (Km.of e1).trans k2
  refine bw_cons ?_
  refine sw_set 6 ?_
  refine ew_lst ?_
  with_reducible refine aw_exs (R := WtV K) (H := H2) (fun y H1 H2 h e => h.kt (Kt.of e)) ?t (Ex.refl H2) ?q
  case t => exact .cons star_tup (ex_wt 0 (gwS rfl)) (.cons star_tup (ex_wt 55440 (gwS rfl)) (.cons star_tup (ex_wt 277200 (gwS rfl)) (.cons star_tup (ex_wt 27720 (gwS rfl)) (.cons star_name (EX.ev (ev_name 4) fun H1 e1 => ⟨m, ⟨pa, rfl, hpa2.mono e1⟩, gm⟩) (.cons star_tup (ex_wt 13860 (gwS rfl)) (.cons star_tup (ex_wt 55440000000000000 gwA) (.cons star_tup (ex_wt 83160 (gwS rfl)) .nil)))))))
  case q =>
    intro ys H3 e3 hl hall
    replace hl : ys.length = 8 := hl
    refine ⟨by rw [hl]; decide, fun sa nsa => ?_⟩
    have e4 : Ex H2 (upd H3 sa (.lst ys)) := e3.trans (Ex.new nsa)
    have hsa : (upd H3 sa (.lst ys)) sa = some (.lst ys) := upd_same
    have hall4 : ∀ y ∈ ys, WtV K y (upd H3 sa (.lst ys)) := fun y hy => (hall y hy).kt (Kt.of (Ex.new nsa))
    generalize upd H3 sa (.lst ys) = H4 at e4 hsa hall4
    have hj8 : v % 8 < ys.length := by omega
    have hget := List.getElem?_eq_getElem hj8
    have hwy := hall4 _ (List.getElem_mem hj8)
    generalize ys[v % 8] = y0 at hget hwy
    have hm2 : (loA m : Int) * ((55440 : Int) / (loB m : Int)) / 2 = ((m / 2 : Nat) : Int) := by
      rw [mul_lo]
      rfl
    refine bw_one (sw_ret (ew_ixLI (ew_lst (aw_cons (EVgo (ev_ixLn (v := y0) (v % 8) (ev_name 6) (ev_mod (ev_name 5) ev_int (by decide)) (.inl (.inl hsa)) hget (by omega)) fun H5 e5 => aw_cons (ew_call ham hr (AVgo (av_cons (ev_is (ev_fdiv (ev_mul (ev_ixTn (v := .int (loA m : Nat)) 0 (ev_name 4) ev_int (hpa2.mono (e4.trans e5)).sq rfl) (ev_fdiv ev_int (ev_ixTn (v := .int (loB m : Nat)) 1 (ev_name 4) ev_int (hpa2.mono (e4.trans e5)).sq rfl) (div_loC m)) (cmulR (div_lo m))) ev_int ⟨by decide, by decide⟩) (by rw [hm2])) av_nil) fun H6 e6 => ⟨m / 2, rfl, fun u H7 e7 hu7 => aw_nil ⟨by show 2 ≤ sizeLine; decide, fun c nc => ⟨c, rfl, EVgo (ev_intB T.b.b_int (ev_eq (ev_mod (ev_name 5) ev_int (by decide)) ev_int)) fun H8 e8 => ?_⟩⟩⟩)))))))
    generalize decide (V.int ((v : Int) % 3) = V.int 0) = kb
    have x48 : Ex H4 H8 := ((e5.trans e6).trans e7).trans ((Ex.new nc).trans e8)
    have fin : ∀ {y : V}, WtV K y H8 → Q y H8 := fun h => q _ H8 (d2.mono (e4.trans x48)) (k02.trans (Km.of (e4.trans x48))) h
    have hc8 := e8 _ _ (show (upd H7 c (.lst [y0, u])) c = some (.lst [y0, u]) from upd_same)
    cases kb with
    | false => exact ⟨[y0, u], 0, y0, rfl, .inl (.inl hc8), rfl, fin (hwy.kt (Kt.of x48))⟩
    | true => exact ⟨[y0, u], 1, u, rfl, .inl (.inl hc8), rfl, fin ⟨m / 2, hu7.mono ((Ex.new nc).trans e8), gm.half⟩⟩
/-- the ties with another weight between two places -/
def spChg (K : PySem.W.Frag) : Sp := fun vs H Q _ => ∃ (td : Addr) (i j : Nat) (v : V), vs = [.ref td, .int (i : Int), .int (j : Int), v] ∧ ∃ n W, n ≤ 7 ∧ TdAt K H td n W ∧ i < n ∧ j < n ∧ i ≠ j ∧ WtV K v H ∧ ∀ td' W' H', Ex H H' → TdAt K H' td' n W' → Q (.ref td') H'
/-! _law_changed: slots 0 _law_ties, 1 _law_i, 2 _law_j, 3 _law_weight_here, 4 _law_found -/
theorem sc_law_changed : FnScope ["_law_ties", "_law_i", "_law_j", "_law_weight_here", "_law_found"] ["_law_ties", "_law_i", "_law_j", "_law_weight_here"] (defScope s_law_changed) := ⟨rfl, rfl, rfl, by decide +kernel, rfl, by decide +kernel, by decide +kernel⟩
theorem ok_law_changed (T : Tops K mg CR CW CN CH) : Has P w K mg base 1 "_law_changed" ["_law_ties", "_law_i", "_law_j", "_law_weight_here"] (spChg K) := by
  refine has_of (k := 0) T.law_changed sc_law_changed (fun _ _ _ _ _ _ us hl => match us, hl with | [_, _, _, _], _ => rfl) (fun vs H Q E h => by
    obtain ⟨td, i, j, v, rfl, _⟩ := h
    rfl) ?_
  intro f cdv A outer s H0 H vs Q E E0 hr h
  obtain ⟨td, i, j, v, rfl, n, W, hn7, ⟨⟨kvs, g, h1, h2, h3, h4⟩, hok⟩, hi, hj, hij, ⟨m, hm, gm⟩, q⟩ := h
  have nd := (sc_law_changed).nd
  have hu := hu_of hr
  have hu64 : (CxD P w K mg base ["_law_ties", "_law_i", "_law_j", "_law_weight_here", "_law_found"] "_law_changed" s_law_changed f cdv A outer s H0 E0).A.units + 64 < cLine := hr.units
  refine bw_cons (sw_set 4 (ew_Ty (call_dictT hu64) T.b.b_dict (aw_cons (EVgo (ev_name 0) fun H1 e1 => aw_nil ⟨td, kvs, rfl, .inl (e1 _ _ h1), hashes_nd h2 hn7, fun c nc => ?_⟩))))
  have x2 : Ex H (upd H1 c (.dT kvs)) := e1.trans (Ex.new nc)
  have tdc : TdAt K (upd H1 c (.dT kvs)) c n W := ⟨⟨kvs, g, upd_same, h2, fun a b u hu => by
    obtain ⟨x, m', y, z⟩ := h3 a b u hu
    exact ⟨x, m', y.mono x2, z⟩, h4⟩, hok⟩
  have ncH : H c = none := Evl.fresh_back e1 nc
  generalize upd H1 c (.dT kvs) = H2 at x2 tdc
  obtain ⟨m1, m2⟩ := minmax hij hi hj
  refine bw_cons (sw_dput hu (EVgo (ev_name 3) fun H3 e3 => EVgo (ev_name 4) fun H4 e4 => EUgo (evu_tup (vs := [iV (min i j), iV (max i j)]) (av_cons (ev_is (ev_min2 T.b.b_min (ev_name 1) (ev_name 2)) (by show V.int _ = V.int _; congr 1; omega)) (av_cons (ev_is (ev_max2 T.b.b_max (ev_name 1) (ev_name 2)) (by show V.int _ = V.int _; congr 1; omega)) av_nil))) fun kt H5 nkt e5 hkt => ?_))
  have x5 := (e3.trans e4).trans e5
  obtain ⟨H6, hput, td6, k6⟩ := (tdc.kn (Kn.of x5)).put m1 m2 hn7 hkt (hm.mono (x2.trans x5)) gm
  refine ⟨c, H6, rfl, hput, ?_⟩
  exact bw_one (sw_ret (EVgo (ev_name 4) fun H7 e7 => q c _ H7 ((Km.nil ((Km.of (M := []) (x2.trans x5)).drop k6 (by simp [ncH]))).trans e7) (td6.kn (Kn.of e7))))
def spTurned (K : PySem.W.Frag) : Sp := fun vs H Q _ => ∃ y, vs = [y] ∧ ∃ n rows F, n ≤ 7 ∧ FlAt K H y rows ∧ FlRows n F rows ∧ Anti F ∧ ∀ v rows' H', Ex H H' → FlAt K H' v rows' → FlRows n (negM F) rows' → Q v H'
/-! _law_turned: slots 0 _law_flow, 1 _law_i, 2 _law_j, 3 _law_amount_here -/
theorem sc_law_turned : FnScope ["_law_flow", "_law_i", "_law_j", "_law_amount_here"] ["_law_flow"] (defScope s_law_turned) := ⟨rfl, rfl, rfl, by decide +kernel, rfl, by decide +kernel, by decide +kernel⟩
theorem ok_law_turned (T : Tops K mg CR CW CN CH) : Has P w K mg base 1 "_law_turned" ["_law_flow"] (spTurned K) := by
  refine has_of (k := 0) T.law_turned sc_law_turned (fun _ _ _ _ _ _ us hl => match us, hl with | [_], _ => rfl) (fun vs H Q E h => by
    obtain ⟨y, rfl, _⟩ := h
    rfl) ?_
  intro f cdv A outer s H0 H vs Q E E0 hr h
  obtain ⟨y, rfl, n, rows, F, hn7, ⟨fp, ys, rfl, hfp, hrows⟩, hF, hA, q⟩ := h
  have nd := (sc_law_turned).nd
  have hu64 : (CxD P w K mg base ["_law_flow", "_law_i", "_law_j", "_law_amount_here"] "_law_turned" s_law_turned f cdv A outer s H0 E0).A.units + 64 < cLine := hr.units
  obtain ⟨rs, hrs, hallA⟩ := rowA_of hrows
  have hlen := hF.len hn7
  have hrl : rs.length = ys.length := hallA.1.symm
  have hyl : ys.length ≤ 49 := by rw [hrows.1]; exact hlen
  refine bw_one (sw_ret (ew_Ty call_tuple_of T.b.b_tuple (aw_cons (ew_B (cr_sortRow hu64) T.b.b_sorted (aw_cons (ew_lc (own := [("_law_i", 1), ("_law_j", 2), ("_law_amount_here", 3)]) (lc_seq (l := rs) (pf := fun _ => true) (Fx := fun t x H => RowA K t x H) (R := fun t y H => RowR K (t.1.2.1, t.1.1, t.1.2.2) y H) (sg := fun t x => [some (.ref fp), some (iV t.1.1), some (iV t.1.2.1), some (.ref t.2)]) (ev_name 0) (.inr (SqT.of hfp)) hrl (by omega) (fun i t x H2 ht hx e2 => (hallA.2 i t x ht hx).kt (Kt.of e2)) (fun t x H1 H2 h e => h.kt (Kt.of e)) ?_ (fun _ _ => rfl) (fun _ _ _ _ _ _ => et_yes) ?_ (fun t y H1 H2 h k => h.kt k) ?_)))))))
  · rintro t _ x H7 e7 ⟨qq, rfl, hq, hT⟩ s0 H0 C cl fp
    exact gv_tup3 (SqT.of hq) (gv_name 1) (gv_name 2) (gv_name 3)
  · rintro t _ _ x H7 e7 ⟨qq, rfl, hq, hT⟩ s0 H0 C cl fp
    intro H8 e8 Q' q'
    refine EUgo (evu_tup (av_cons (ev_name 2) (av_cons (ev_name 1) (av_cons (ev_name 3) av_nil)))) fun p H9 np e9 hp => q' _ _ e9 ⟨p, t.2, rfl, hp, hT.mono (e8.trans e9)⟩
  · intro c zs H2 nc e2 hzs hall2
    rw [show rs.filter (fun _ => true) = rs from List.filter_eq_self.mpr fun _ _ => rfl] at hall2
    have hall3 : AllR (RowR K) (rs.map fun t => ((t.1.2.1, t.1.1, t.1.2.2) : Rw)) zs H2 := by
      refine ⟨by rw [List.length_map]; exact hall2.1, fun k t y h1 h2 => ?_⟩
      rw [List.getElem?_map] at h1
      cases e : rs[k]? with
      | none => rw [e] at h1; cases h1
      | some t2 =>
        rw [e] at h1
        cases h1
        exact hall2.2 k t2 y e h2
    have hrows' : (rs.map fun t => ((t.1.2.1, t.1.1, t.1.2.2) : Rw)) = rows.map fun t : Rw => ((t.2.1, t.1, t.2.2) : Rw) := by
      rw [← hrs, List.map_map]
      rfl
    rw [hrows'] at hall3
    refine aw_nil ⟨c, zs, rows.map fun t : Rw => ((t.2.1, t.1, t.2.2) : Rw), rfl, .inl (.inl hzs), by rw [List.length_map]; omega, hall3, ?_, fun t ht => ?_, fun zs' rows' d hperm hpw hall' nd' => ?_⟩
    · rw [List.map_map]
      have h0 := List.pairwise_map.mp hF.nd
      exact List.pairwise_map.mpr (h0.imp fun {a b} z e => z (by
        have e' : (a.2.1, a.1) = (b.2.1, b.1) := e
        rw [Prod.mk.injEq] at e'
        rw [Prod.mk.injEq]
        exact ⟨e'.2, e'.1⟩))
    · obtain ⟨t0, ht0, rfl⟩ := List.mem_map.mp ht
      obtain ⟨a, b, _⟩ := hF.ne hA ht0
      show t0.2.1 < 64 ∧ t0.1 < 64
      omega
    · refine aw_nil ⟨d, zs', rfl, .inl ⟨.inl (.inl upd_same), fun t nt => q (.ref t) rows' _ (e2.trans ((Ex.new nd').trans (Ex.new nt))) ⟨t, zs', rfl, upd_same, hall'.imp fun a y r => r.kt (Kt.of ((Ex.new nd').trans (Ex.new nt)))⟩ ⟨hpw, fun i j m => ?_⟩⟩⟩
      rw [hperm.mem_iff, List.mem_map]
      constructor
      · rintro ⟨t0, ht0, e⟩
        obtain ⟨rfl, e'⟩ := Prod.mk.inj e
        obtain ⟨rfl, rfl⟩ := Prod.mk.inj e'
        obtain ⟨h1, h2, h3, h4⟩ := (hF.iff t0.1 t0.2.1 t0.2.2).mp ht0
        have h5 := hA t0.1 t0.2.1
        unfold negM
        exact ⟨h2, h1, h3, by omega⟩
      · rintro ⟨h1, h2, h3, h4⟩
        have h5 := hA i j
        unfold negM at h4
        exact ⟨(j, i, m), (hF.iff j i m).mpr ⟨h2, h1, h3, by omega⟩, rfl⟩
/-- ends -/
def spEndsL (K : PySem.W.Frag) : Sp := fun vs H Q _ => ∃ (da : Addr) (n : Nat), vs = [.ref da, .int (n : Int)] ∧ DrAt H da ∧ (3 ≤ n ∧ n ≤ 7) ∧ ∀ (t pf pt : Addr) (fs ts : List Nat) H', DrAt H' da → Km [da] H H' → H' t = some (.tup [.ref pf, .ref pt]) → H' pf = some (.tup (fs.map iV)) → H' pt = some (.tup (ts.map iV)) → EndsOk n fs ts → Q (.ref t) H'
/-! _law_ends: slots 0 _law_draws_here, 1 _law_many, 2 _law_order_here, 3 _law_one, 4 _law_other -/
theorem sc_law_ends : FnScope ["_law_draws_here", "_law_many", "_law_order_here", "_law_one", "_law_other"] ["_law_draws_here", "_law_many"] (defScope s_law_ends) := ⟨rfl, rfl, rfl, by decide +kernel, rfl, by decide +kernel, by decide +kernel⟩
theorem ok_law_ends (T : Tops K mg CR CW CN CH) (hn : Has P w K mg base 1 "_law_next" ["_law_draws_here"] spNext) (ho : Has P w K mg base 2 "_law_order" ["_law_draws_here", "_law_many"] spOrder) : Has P w K mg base 3 "_law_ends" ["_law_draws_here", "_law_many"] (spEndsL K) := by
  refine has_of (k := 2) T.law_ends sc_law_ends (fun _ _ _ _ _ _ us hl => match us, hl with | [_, _], _ => rfl) (fun vs H Q E h => by
    obtain ⟨da, n, rfl, _⟩ := h
    rfl) ?_
  intro f cdv A outer s H0 H vs Q E E0 hr h
  obtain ⟨da, n, rfl, hd, ⟨hn3, hn7⟩, q⟩ := h
  have nd := (sc_law_ends).nd
  refine bw_cons (sw_set 2 (ew_call ho hr (AVgo (av_cons (ev_name 0) (av_cons (ev_name 1) av_nil)) fun H1 e1 => ⟨da, n, rfl, hd.mono e1, hn7, fun oa os H2 d2 k2 noa hoa hperm => ?_⟩)))
  have k02 : Km [da] H H2 := (Km.of e1).trans k2
  have nod : oa ≠ da := (hd.mono e1).ne noa
  have hol : os.length = n := by rw [hperm.length_eq, List.length_range]
  have hond : os.Nodup := hperm.nodup_iff.mpr List.nodup_range
  have hlt : ∀ x ∈ os, x < n := fun x hx => List.mem_range.mp (hperm.mem_iff.mp hx)
  refine bw_cons (sw_set 3 (ew_B (call_min2 rfl) T.b.b_min (aw_cons (EVgo (ev_fdiv (ev_name 1) ev_int ⟨by decide, by decide⟩) fun H3 e3 => aw_cons (ew_addI (EVgo ev_int fun H4 e4 => ⟨1, rfl, ew_B (call_max2 rfl) T.b.b_max (aw_cons (EVgo ev_int fun H5 e5 => aw_cons (ew_subI (ew_modI (ew_next hn hr (ev_name 0) (d2.mono ((e3.trans e4).trans e5)) fun v H6 d6 k6 => ⟨_, rfl, EVgo ev_int fun H7 e7 => ⟨5, rfl, by decide, _, rfl, EVgo ev_int fun H8 e8 => ⟨2, rfl, aw_nil ⟨0, _, rfl, _, rfl, aw_nil ⟨_, _, rfl, ?_⟩⟩⟩⟩⟩)))))⟩))))))
  obtain ⟨k1, ek1, hk1, hk1n⟩ := end_num n v hn3
  rw [ek1]
  have d8 := (d6.mono e7).mono e8
  have k28 : Km [da] H2 H8 := (Km.of ((e3.trans e4).trans e5)).trans (k6.trans (Km.of (e7.trans e8)))
  clear d6 e3 e4 e5 k6 e7 e8 ek1
  refine bw_cons (sw_set 4 (ew_B (call_min2 rfl) T.b.b_min (aw_cons (EVgo (ev_fdiv (ev_name 1) ev_int ⟨by decide, by decide⟩) fun H3 e3 => aw_cons (ew_addI (EVgo ev_int fun H4 e4 => ⟨1, rfl, ew_B (call_max2 rfl) T.b.b_max (aw_cons (EVgo ev_int fun H5 e5 => aw_cons (ew_subI (ew_modI (ew_next hn hr (ev_name 0) (d8.mono ((e3.trans e4).trans e5)) fun v H6 d6 k6 => ⟨_, rfl, EVgo ev_int fun H7 e7 => ⟨5, rfl, by decide, _, rfl, EVgo ev_int fun H9 e9 => ⟨2, rfl, aw_nil ⟨0, _, rfl, _, rfl, aw_nil ⟨_, _, rfl, ?_⟩⟩⟩⟩⟩)))))⟩))))))
  obtain ⟨k2', ek2, hk2, hk2n⟩ := end_num n v hn3
  rw [ek2]
  have d9 := (d6.mono e7).mono e9
  have k29 : Km [da] H2 H9 := k28.trans ((Km.of ((e3.trans e4).trans e5)).trans (k6.trans (Km.of (e7.trans e9))))
  clear d6 e3 e4 e5 k6 e7 e9 ek2 k28 d8
  have ho9 := k29 _ _ hoa (by simp [nod])
  have k09 := k02.trans k29
  refine bw_one (sw_ret (ew_tup (aw_cons (ew_Ty call_tuple_of T.b.b_tuple (aw_cons (ew_sortN T.b.b_sorted (ew_upto (k := k1) (ev_name 2) (.inl (.inl ho9)) (ev_name 3) (by rw [List.length_map]; omega) fun p1 Ha ea np1 hp1 => ⟨p1, os.take k1, rfl, .inl (.inl (by rw [hp1, List.map_take])), by rw [List.length_take]; omega, fun fs c hfp hfs nc => aw_nil ⟨c, _, rfl, .inl ⟨.inl (.inl upd_same), fun pf npf => aw_cons (ew_Ty call_tuple_of T.b.b_tuple (aw_cons (ew_sortN T.b.b_sorted (ew_cut (i := k1) (j := k1 + k2') (ev_name 2) (.inl (.inl (((Ex.new nc).trans (Ex.new npf)) _ _ (ea _ _ ho9)))) (ev_name 3) (ev_is (ev_add (ev_name 3) (ev_name 4)) (by congr 1)) (by rw [List.length_map]; omega) (by rw [List.length_map]; omega) fun p2 Hb eb np2 hp2 => ⟨p2, (os.drop k1).take (k1 + k2' - k1), rfl, .inl (.inl (by rw [hp2, List.map_take, List.map_drop])), by rw [List.length_take]; omega, fun ts c2 htp hts nc2 => aw_nil ⟨c2, _, rfl, .inl ⟨.inl (.inl upd_same), fun pt npt => aw_nil ⟨by show 2 ≤ sizeLine; decide, fun t nt => ?_⟩⟩⟩⟩))))⟩⟩⟩)))))))
  have xb := (eb.trans (Ex.new nc2 (o := .lst (ts.map iV)))).trans ((Ex.new npt (o := .tup (ts.map iV))).trans (Ex.new nt (o := .tup [.ref pf, .ref pt])))
  have xa := (ea.trans (Ex.new nc (o := .lst (fs.map iV)))).trans (Ex.new npf (o := .tup (fs.map iV)))
  have hsplit := List.take_append_drop k1 os
  have hdis : ∀ x ∈ os.take k1, x ∉ os.drop k1 := fun x h1 h2 => by
    have h3 : (os.take k1 ++ os.drop k1).Nodup := by rw [hsplit]; exact hond
    exact (List.nodup_append.mp h3).2.2 x h1 x h2 rfl
  have hfnd : (os.take k1).Nodup := hond.sublist (List.take_sublist _ _)
  have htnd : ((os.drop k1).take (k1 + k2' - k1)).Nodup := hond.sublist ((List.take_sublist _ _).trans (List.drop_sublist _ _))
  refine q t pf pt fs ts _ (d9.mono (xa.trans xb)) (k09.trans (Km.of (xa.trans xb))) upd_same (xb _ _ upd_same) (Ex.new nt _ _ upd_same) ⟨lt_of_le hfs (hfp.nodup_iff.mpr hfnd), lt_of_le hts (htp.nodup_iff.mpr htnd), fun x hx => hlt x (List.mem_of_mem_take (hfp.mem_iff.mp hx)), fun x hx => hlt x (List.mem_of_mem_drop (List.mem_of_mem_take (htp.mem_iff.mp hx))), fun x h1 h2 => hdis x (hfp.mem_iff.mp h1) (List.mem_of_mem_take (htp.mem_iff.mp h2)), fun z => ?_, fun z => ?_⟩
  · have := hfp.length_eq
    rw [z, List.length_nil, List.length_take] at this
    omega
  · have := htp.length_eq
    rw [z, List.length_nil, List.length_take, List.length_drop] at this
    omega
end
end Cut


namespace Cut
open PySem PySem.Spec PyProof.Rows L2 Evl
/-! ### all sides between the ends -/
/-- those places of L whose bit of x is one -/
def bitOn (x k : Nat) : Bool := decide (x / 2 ^ k % 2 = 1)
def sel (L : List Nat) (x : Nat) : List Nat := ((List.range L.length).filter (bitOn x)).map fun k => L.getD k 0
theorem bits_all (f : Nat → Bool) : ∀ m : Nat, ∃ x, x < 2 ^ m ∧ ∀ k, k < m → bitOn x k = f k := by
  intro m
  induction m generalizing f with
  | zero => exact ⟨0, by decide, fun k hk => absurd hk (Nat.not_lt_zero k)⟩
  | succ m ih =>
    obtain ⟨x, hx, hb⟩ := ih fun k => f (k + 1)
    refine ⟨2 * x + (if f 0 then 1 else 0), ?_, fun k hk => ?_⟩
    · rw [Nat.pow_succ]
      cases f 0 <;> simp <;> omega
    · cases k with
      | zero =>
        unfold bitOn
        rw [Nat.pow_zero, Nat.div_one]
        cases f 0 with
        | true =>
          show decide ((2 * x + 1) % 2 = 1) = true
          exact decide_eq_true (by omega)
        | false =>
          show decide ((2 * x + 0) % 2 = 1) = false
          exact decide_eq_false (by omega)
      | succ k =>
        have h := hb k (by omega)
        unfold bitOn at h ⊢
        have e : (2 * x + (if f 0 then 1 else 0)) / 2 ^ (k + 1) = x / 2 ^ k := by
          rw [Nat.pow_succ, Nat.mul_comm (2 ^ k) 2, ← Nat.div_div_eq_div_mul]
          congr 1
          cases f 0 <;> simp <;> omega
        rw [e]
        exact h
theorem mem_sel {L : List Nat} {x v : Nat} : v ∈ sel L x ↔ ∃ k, L[k]? = some v ∧ bitOn x k = true := by
  unfold sel
  rw [List.mem_map]
  constructor
  · rintro ⟨k, hk, rfl⟩
    obtain ⟨h1, h2⟩ := List.mem_filter.mp hk
    have h3 := List.mem_range.mp h1
    exact ⟨k, by rw [List.getD_eq_getElem?_getD, List.getElem?_eq_getElem h3]; rfl, h2⟩
  · rintro ⟨k, hk, hb⟩
    have h3 := (List.getElem?_eq_some_iff.mp hk).1
    exact ⟨k, List.mem_filter.mpr ⟨List.mem_range.mpr h3, hb⟩, by rw [List.getD_eq_getElem?_getD, hk]; rfl⟩
theorem sel_sub {L : List Nat} {x v : Nat} (h : v ∈ sel L x) : v ∈ L := by
  obtain ⟨k, hk, _⟩ := mem_sel.mp h
  exact List.mem_of_getElem? hk
theorem sel_nd {L : List Nat} {x : Nat} (h : L.Nodup) : (sel L x).Nodup := by
  unfold sel
  refine List.pairwise_map.mpr (List.Pairwise.imp_of_mem (fun {a b} ha hb hab e => hab ?_) (List.Pairwise.sublist List.filter_sublist List.nodup_range))
  have h1 := List.mem_range.mp (List.mem_filter.mp ha).1
  have h2 := List.mem_range.mp (List.mem_filter.mp hb).1
  rw [List.getD_eq_getElem?_getD, List.getD_eq_getElem?_getD, List.getElem?_eq_getElem h1, List.getElem?_eq_getElem h2] at e
  exact (List.getElem_inj h).mp e
theorem sel_len {L : List Nat} {x : Nat} : (sel L x).length ≤ L.length := by
  unfold sel
  rw [List.length_map]
  refine Nat.le_trans (List.length_filter_le _ _) ?_
  rw [List.length_range]
  exact Nat.le_refl _
def inner (n : Nat) (fs ts : List Nat) : List Nat := (List.range n).filter fun i => !decide (i ∈ fs) && !decide (i ∈ ts)
theorem mem_inner {n : Nat} {fs ts : List Nat} {v : Nat} : v ∈ inner n fs ts ↔ v < n ∧ v ∉ fs ∧ v ∉ ts := by
  unfold inner
  rw [List.mem_filter, List.mem_range]
  simp
theorem inner_nd {n : Nat} {fs ts : List Nat} : (inner n fs ts).Nodup := List.Pairwise.sublist List.filter_sublist List.nodup_range
theorem inner_len {n : Nat} {fs ts : List Nat} : (inner n fs ts).length ≤ n := by
  refine Nat.le_trans (List.length_filter_le _ _) ?_
  rw [List.length_range]
  exact Nat.le_refl _
/-- the x-th side is one between the ends -/
theorem side_sd {n : Nat} {fs ts : List Nat} (en : EndsOk n fs ts) (x : Nat) : Sd n (inP fs) (inP ts) (inP (fs ++ sel (inner n fs ts) x)) := by
  refine ⟨fun v hv h => inP_iff.mpr (List.mem_append_left _ (inP_iff.mp h)), fun v hv h => ?_⟩
  cases e : inP (fs ++ sel (inner n fs ts) x) v with
  | false => rfl
  | true =>
    exfalso
    have h2 := inP_iff.mp h
    rcases List.mem_append.mp (inP_iff.mp e) with h1 | h1
    · exact en.dis v h1 h2
    · exact (mem_inner.mp (sel_sub h1)).2.2 h2
/-- each side between the ends is one of them -/
theorem side_all {n : Nat} {fs ts : List Nat} {A : Pl} (s : Sd n (inP fs) (inP ts) A) : ∃ x, x < 2 ^ (inner n fs ts).length ∧ ∀ v, v < n → (fs ++ sel (inner n fs ts) x).contains v = A v ∧ inP (fs ++ sel (inner n fs ts) x) v = A v := by
  obtain ⟨x, hx, hb⟩ := bits_all (fun k => A ((inner n fs ts).getD k 0)) (inner n fs ts).length
  have key : ∀ v, v < n → inP (fs ++ sel (inner n fs ts) x) v = A v := fun v hv => by
    cases e : A v with
    | true =>
      refine inP_iff.mpr ?_
      by_cases c : v ∈ fs
      · exact List.mem_append_left _ c
      · have ct : v ∉ ts := fun z => by
          have := s.to v hv (inP_iff.mpr z)
          rw [e] at this
          cases this
        obtain ⟨k, hk⟩ := List.mem_iff_getElem?.mp (mem_inner.mpr ⟨hv, c, ct⟩)
        refine List.mem_append_right _ (mem_sel.mpr ⟨k, hk, ?_⟩)
        rw [hb k (List.getElem?_eq_some_iff.mp hk).1, List.getD_eq_getElem?_getD, hk]
        exact e
    | false =>
      cases e2 : inP (fs ++ sel (inner n fs ts) x) v with
      | false => rfl
      | true =>
        exfalso
        rcases List.mem_append.mp (inP_iff.mp e2) with h1 | h1
        · have := s.fr v hv (inP_iff.mpr h1)
          rw [e] at this
          cases this
        · obtain ⟨k, hk, hbk⟩ := mem_sel.mp h1
          rw [hb k (List.getElem?_eq_some_iff.mp hk).1, List.getD_eq_getElem?_getD, hk] at hbk
          replace hbk : A v = true := hbk
          rw [e] at hbk
          cases hbk
  refine ⟨x, hx, fun v hv => ⟨?_, key v hv⟩⟩
  rw [← key v hv]
  unfold inP
  rw [List.contains_eq_mem]
theorem acr_congr {n : Nat} {A B : Pl} {W : Mx} (h : ∀ v, v < n → A v = B v) : acr n A W = acr n B W := sm_congr fun i hi => sm_congr fun j hj => by rw [h i hi, h j hj]
theorem sum_rangeF {f : Nat → Int} {p : Nat → Bool} : ∀ n : Nat, (((List.range n).filter p).map f).sum = sm n fun j => if p j then f j else 0
  | 0 => rfl
  | n + 1 => by
    rw [List.range_succ, List.filter_append, List.map_append, List.sum_append, sum_rangeF n]
    show _ = sm n _ + (if p n then f n else 0)
    congr 1
    cases e : p n with
    | true => simp [e]
    | false => simp [e]
theorem acr_sum {n : Nat} {S : List Nat} {W : Mx} (hn : S.Nodup) (hl : ∀ x ∈ S, x < n) : (S.map fun i => (((List.range n).filter fun j => !decide (j ∈ S)).map fun j => W i j).sum).sum = acr n (inP S) W := by
  rw [sum_onS hn hl]
  refine sm_congr fun i hi => ?_
  show (if inP S i = true then (((List.range n).filter fun j => !decide (j ∈ S)).map fun j => W i j).sum else 0) = _
  rw [sum_rangeF]
  by_cases c : inP S i = true
  · rw [if_pos c]
    refine sm_congr fun j hj => ?_
    rw [c, Bool.true_and]
    rfl
  · rw [if_neg c]
    have : inP S i = false := by simpa using c
    rw [show (sm n fun j => if (inP S i && !inP S j) = true then W i j else 0) = sm n fun _ => 0 from sm_congr fun j hj => by rw [this]; rfl, sm_zero]
/-- the sides in their order -/
def SdR (K : PySem.W.Frag) (fs L : List Nat) (x : Nat) (y : V) (H : Hp) : Prop := ∃ (S : List Nat) (p : Addr), y = .ref p ∧ H p = some (.tup (S.map iV)) ∧ S.Perm (fs ++ sel L x)
theorem SdR.kt {K : PySem.W.Frag} {fs L : List Nat} {x : Nat} {y : V} {H H' : Hp} (h : SdR K fs L x y H) (k : Kt H H') : SdR K fs L x y H' := by
  obtain ⟨S, p, h1, h2, h3⟩ := h
  exact ⟨S, p, h1, k _ _ h2, h3⟩
section
variable {X : Cx} {σ : L2.St} {H : Hp} {pos p : Pos} {a b e : Expr} {i j : Int}
theorem ev_band (ha : EV X a σ H (.int i)) (hb : EV X b σ H (.int j)) : EV X (.BinOp a .BitAnd b pos) σ H (.int (Builtin.bitAnd i j)) := ev_of (pe_op op_and pe_w pe_w) (Evl.ev_op ha hb Evl.rv_I0)
theorem ev_sumL {ns : List Int} (hm : X.mg "sum" = none) (h : EVL X e σ H (ns.map V.int)) (hc : X.calm = true := by rfl) (hg : Gl X "sum" := by rfl) (hs : starEach [e] X.env = (false, eval e X.env) :: starEach [] X.env := by rfl) : EV X (.Call (.Name "sum" p) [e] [] pos) σ H (.int ns.sum) := fun H1 e1 Q q =>
  ew_B (cr_sum hc) hm (aw_cons (h H1 e1 _ fun c H2 nc e2 hc => aw_nil ⟨c, ns, rfl, .inl (.inl hc), q H2 e2⟩) hs) (by decide +kernel) hg (by decide) (by decide) hs
theorem bit_shr (x k : Nat) : Builtin.bitAnd ((x : Int) / 2 ^ ((k : Int).toNat)) 1 = ((x / 2 ^ k % 2 : Nat) : Int) := by
  have h0 : (x : Int) / 2 ^ ((k : Int).toNat) = ((x / 2 ^ k : Nat) : Int) := by
    rw [Int.toNat_natCast, Int.natCast_ediv, Int.natCast_pow]
    rfl
  rw [h0]
  have h1 := Bits.bitAnd_mask (x := ((x / 2 ^ k : Nat) : Int)) 1 (Int.natCast_nonneg _)
  rw [show (2 : Int) ^ 1 - 1 = 1 from rfl, show (2 : Int) ^ 1 = 2 from rfl] at h1
  rw [h1]
  rfl
end
section
variable {P : Program} {w : World} {K : PySem.W.Frag} {mg : Str → Option Value} {base : Heap} {CR CW CN CH : Addr}
def spSideP (K : PySem.W.Frag) : Sp := spV fun vs H v => ∃ (n : Nat) (cd sd : Addr), vs = [.int (n : Int), .ref cd, .ref sd] ∧ ∃ (S : List Nat) (W : Mx), n ≤ 7 ∧ DnAt H cd n W ∧ Tp K H sd (S.map iV) ∧ S.Nodup ∧ (∀ x ∈ S, x < n) ∧ v = .int (acr n (inP S) W)
/-! _law_side_parts: slots 0 _law_many, 1 _law_counted, 2 _law_side, 3 _law_found, 4 _law_i, 5 _law_j -/
theorem sc_law_side_parts : FnScope ["_law_many", "_law_counted", "_law_side", "_law_found", "_law_i", "_law_j"] ["_law_many", "_law_counted", "_law_side"] (defScope s_law_side_parts) := ⟨rfl, rfl, rfl, by decide +kernel, rfl, by decide +kernel, by decide +kernel⟩
theorem ok_law_side_parts (T : Tops K mg CR CW CN CH) : Has P w K mg base 1 "_law_side_parts" ["_law_many", "_law_counted", "_law_side"] (spSideP K) := by
  refine has_of (k := 0) T.law_side_parts sc_law_side_parts (fun _ _ _ _ _ _ us hl => match us, hl with | [_, _, _], _ => rfl) (fun vs H Q E h => by
    obtain ⟨_, ⟨n, cd, sd, rfl, _⟩, _⟩ := h
    rfl) ?_
  intro f cdv A outer s H0 H vs Q E E0 hr h
  obtain ⟨v, ⟨n, cd, sd, rfl, S, W, hn7, hcd, hS, hnd, hlt, rfl⟩, q⟩ := h
  have nd := (sc_law_side_parts).nd
  have hu := hu_of hr
  let rowS : Nat → Int := fun i => (((List.range n).filter fun j => !decide (j ∈ S)).map fun j => W i j).sum
  refine bw_cons (sw_set 3 (EVgo ev_int fun H1 e1 => ?_))
  refine bw_cons (sw_forT PassesOwn.never (p := sd) (xs := S.map iV) (ev_name 2) (hS.mono e1).sq (fun k σ' H' => ∃ z, σ' = [some (.int (n : Int)), some (.ref cd), some (.ref sd), some (.int ((S.take k).map rowS).sum), z, none] ∧ Ex H H') (fun H2 e2 => ⟨none, rfl, e1.trans e2⟩) (fun i σ' H' _ ⟨_, _, e⟩ => (hS.mono e).sq) ?_ ?_)
  · rintro k x σ' H' hk ⟨z, rfl, e2⟩
    rw [List.getElem?_map] at hk
    cases e : S[k]? with
    | none => rw [e] at hk; cases hk
    | some i =>
      rw [e] at hk
      cases hk
      have hi := hlt i (List.mem_of_getElem? e)
      refine gw_name 4 ?_
      refine bw_one (sw_set 3 (EVgo (ev_add (ev_name 3) (ev_sumL (ns := ((List.range n).filter fun j => !decide (j ∈ S)).map fun j => W i j) T.b.b_sum (by
        rw [List.map_map]
        exact evl_compRIf (n := n) (pf := fun j => !decide (j ∈ S)) (g := fun j => V.int (W i j)) [("_law_j", 5)] T.b.b_range (ev_name 0) (by omega) (fun j => [some (.int (n : Int)), some (.ref cd), some (.ref sd), some (.int ((S.take k).map rowS).sum), some (iV i), some (iV j)]) (fun j hj s0 H0 C cl fp => gv_name 5) (fun _ => rfl) (fun j hj s0 H0 C cl fp => tv_is (tv_niS (x := iV j) (ev_name 5) (ev_name 2) (.inr (hS.mono e2).sq) rfl (flat_iV _)) (by rw [in_iV])) (fun j hj _ s0 H0 C cl fp => by
          obtain ⟨kvs, hk1, hk2⟩ := (hcd.mono e2).get hi hj
          exact ev_get2 (k := kp i j) hu (ev_name 1) (evu_tup (av_cons (ev_name 4) (av_cons (ev_name 5) av_nil))) ev_int hk1 hk2)))) fun H3 e3 => ⟨some (iV i), ?_, e2.trans e3⟩))
      rw [take_snoc e, List.map_append, List.sum_append, List.map_cons, List.map_nil, List.sum_singleton]
      rfl
  · rintro σ' H' ⟨z, rfl, e2⟩
    rw [List.length_map, List.take_length]
    have hs : (S.map rowS).sum = acr n (inP S) W := acr_sum hnd hlt
    rw [hs]
    exact bw_one (sw_ret (EVgo (ev_name 3) fun H3 e3 => q H3 (e2.trans e3)))
def spSides (K : PySem.W.Frag) : Sp := fun vs H Q _ => ∃ (n : Nat) (t : Addr), vs = [.int (n : Int), .ref t] ∧ ∃ (pf pt : Addr) (fs ts : List Nat), n ≤ 7 ∧ H t = some (.tup [.ref pf, .ref pt]) ∧ Tp K H pf (fs.map iV) ∧ Tp K H pt (ts.map iV) ∧ EndsOk n fs ts ∧
  ∀ (pa : Addr) (ys : List V) H', Ex H H' → H pa = none → H' pa = some (.lst ys) → AllR (SdR K fs (inner n fs ts)) (List.range (2 ^ (inner n fs ts).length)) ys H' → Q (.ref pa) H'
/-! _law_sides_between: slots 0 _law_many, 1 _law_ends_here, 2 _law_froms, 3 _law_tos, 4 _law_left, 5 _law_found, 6 _law_number, 7 _law_more, 8 _law_place, 9 _law_k -/
theorem sc_law_sides_between : FnScope ["_law_many", "_law_ends_here", "_law_froms", "_law_tos", "_law_left", "_law_found", "_law_number", "_law_more", "_law_place", "_law_k"] ["_law_many", "_law_ends_here"] (defScope s_law_sides_between) := ⟨rfl, rfl, rfl, by decide +kernel, rfl, by decide +kernel, by decide +kernel⟩
theorem ok_law_sides_between (T : Tops K mg CR CW CN CH) : Has P w K mg base 1 "_law_sides_between" ["_law_many", "_law_ends_here"] (spSides K) := by
  refine has_of (k := 0) T.law_sides_between sc_law_sides_between (fun _ _ _ _ _ _ us hl => match us, hl with | [_, _], _ => rfl) (fun vs H Q E h => by
    obtain ⟨n, t, rfl, _⟩ := h
    rfl) ?_
  intro f cdv A outer s H0 H vs Q E E0 hr h
  obtain ⟨n, t, rfl, pf, pt, fs, ts, hn7, ht, hf, htt, en, q⟩ := h
  have nd := (sc_law_sides_between).nd
  have hu := hu_of hr
  generalize hL : inner n fs ts = L at q
  have hLl : L.length ≤ 7 := by
    rw [← hL]
    exact Nat.le_trans inner_len hn7
  have h2L : 2 ^ L.length ≤ 128 := Nat.pow_le_pow_right (by decide) hLl
  have hfl : fs.length ≤ 7 := Nat.le_trans (nodup_lt n fs (pw_nd en.fnd) en.flt) hn7
  refine bw_cons (sw_asg (EVgo (ev_name 1) fun H1 e1 => gw_tup (n := 2) (SqT.of (e1 _ _ ht)) (gws_cons (gw_name 2 (gws_cons (gw_name 3 (gws_nil ?_)))))))
  refine bw_cons (sw_setLcIf 4 (own := [("_law_place", 8)]) (lc_rIf (n := n) (pf := fun i => !decide (i ∈ fs) && !decide (i ∈ ts)) (g := iV) T.b.b_range (ev_name 0) (by omega) (fun i => [some (.int (n : Int)), some (.ref t), some (.ref pf), some (.ref pt), none, none, none, none, some (iV i), none]) (fun i hi s0 H0 C cl fp => gv_name 8) (fun _ => rfl) (fun i hi s0 H0 C cl fp => tv_is (tv_bool (wv_and (tv_niS (x := iV i) (ev_name 8) (ev_name 2) (.inr (hf.mono e1).sq) rfl (flat_iV _)) fun _ => wv_one_and (tv_niS (x := iV i) (ev_name 8) (ev_name 3) (.inr (htt.mono e1).sq) rfl (flat_iV _)))) (by rw [in_iV, in_iV])) (fun i hi _ s0 H0 C cl fp => ev_name 8) fun la H2 nla e2 hla => ?_))
  replace hla : H2 la = some (.lst (L.map iV)) := by rw [← hL]; exact hla
  refine bw_cons (sw_set 5 (ew_lst (aw_nil ⟨by show 0 ≤ sizeLine; exact Nat.zero_le _, fun fa nfa => ?_⟩)))
  have e3 : Ex H2 (upd H2 fa (.lst [])) := Ex.new nfa
  have hfa : (upd H2 fa (.lst [])) fa = some (.lst []) := upd_same
  have nfal : fa ≠ la := fun z => by
    rw [z, hla] at nfa
    cases nfa
  have nfH : H fa = none := Evl.fresh_back (e1.trans e2) nfa
  generalize upd H2 fa (.lst []) = H3 at e3 hfa
  have e03 : Ex H H3 := (e1.trans e2).trans e3
  refine bw_cons (sw_forR1 PassesOwn.never T.b.b_range (n := 2 ^ L.length) (ev_is (ev_shl ev_int (ev_len T.b.b_len (ev_name 4) (.inl (.inl (.inl (e3 _ _ hla))))) ⟨by omega, by rw [List.length_map]; omega, by decide⟩) (by rw [List.length_map, Int.toNat_natCast, Int.one_mul, Int.natCast_pow]; rfl)) (by omega) (fun x σ' H' => ∃ (z6 z7 : Option V) (ys : List V), σ' = [some (.int (n : Int)), some (.ref t), some (.ref pf), some (.ref pt), some (.ref la), some (.ref fa), z6, z7, none, none] ∧ Ex H H' ∧ H' la = some (.lst (L.map iV)) ∧ H' fa = some (.lst ys) ∧ AllR (SdR K fs L) (List.range x) ys H') (fun H4 e4 => ⟨none, none, [], rfl, e03.trans e4, e4 _ _ (e3 _ _ hla), e4 _ _ hfa, AllR.nil⟩) ?_ ?_)
  · rintro x σ' H' hx ⟨z6, z7, ys, rfl, e4, hla', hfa', hall⟩
    refine gw_name 6 ?_
    refine bw_cons (sw_setLcIf 7 (own := [("_law_k", 9), ("_law_place", 8)]) (lc_of (iw_of (pi_enum (by rfl) T.b.b_enumerate pa_w) (AVgo (av_cons (ev_name 4) av_nil) fun H5 e5 => ⟨la, L.map iV, rfl, .inl (.inl (e5 _ _ hla')), ?_⟩))))
    refine lc_goX (l := List.range L.length) (pf := bitOn x) (n := (L.map iV).length) (G := fun H => SqL K H la (L.map iV)) (Fx := fun k v H => ∃ qq, v = .ref qq ∧ H qq = some (.tup [iV k, iV (L.getD k 0)])) (R := fun k y _ => y = iV (L.getD k 0)) (sg := fun k _ => [some (.int (n : Int)), some (.ref t), some (.ref pf), some (.ref pt), some (.ref la), some (.ref fa), some (iV x), z7, some (iV (L.getD k 0)), some (iV k)]) walk_enum (fun H6 e6 => .inl (.inl (e6 _ _ (e5 _ _ hla')))) (by rw [List.length_range, List.length_map]) (by rw [List.length_map]; omega) ?_ ?_ ?_ (fun _ _ => rfl) ?_ ?_ (fun _ _ _ _ h _ => h) ?_
    · rintro i k v H6 H7 hk e6 ⟨T0, u, u2, rfl, hT, rfl, hu1, hu2⟩
      cases hu1
      have hkl := (List.getElem?_eq_some_iff.mp hk).1
      rw [List.getElem?_range (by simpa using hkl)] at hk
      cases hk
      replace hu2 : (L.map iV)[i]? = some u2 := hu2
      rw [List.getElem?_map] at hu2
      refine ⟨Ex.new hT, T0, rfl, ?_⟩
      rw [upd_same, List.getD_eq_getElem?_getD]
      cases e : L[i]? with
      | none => rw [e] at hu2; cases hu2
      | some v =>
        rw [e] at hu2
        cases hu2
        rfl
    · rintro k v H6 H7 ⟨qq, rfl, hq⟩ e
      exact ⟨qq, rfl, e _ _ hq⟩
    · rintro k _ v H6 e6 ⟨qq, rfl, hq⟩ s0 H0 C cl fp
      exact gv_tup2 (.inl (.inl hq)) (gv_name 9) (gv_name 8)
    · rintro k _ v H6 e6 _
      refine tv_b fun s0 H0 C cl fp => tv_is (tv_eq (ev_band (ev_shr (ev_name 6) (ev_name 9) (by omega)) ev_int) ev_int) ?_
      rw [bit_shr]
      unfold bitOn
      rw [decide_eq_decide, V.int.injEq]
      omega
    · rintro k _ _ v H6 e6 _ s0 H0 C cl fp
      exact EX.ev (ev_name 8) fun _ _ => rfl
    · intro ma zs H6 nma e6 hzs hall6
      have hz := allR_map hall6
      replace hz : zs = (sel L x).map iV := by
        rw [hz]
        unfold sel
        rw [List.map_map]
        rfl
      subst hz
      have x46 := e5.trans e6
      have hfa6 := x46 _ _ hfa'
      refine bw_one (sw_expr (ew_append (ev_name 5) ⟨_, hfa6⟩ fun H7 e7 => ?_))
      refine ew_Ty call_tuple_of T.b.b_tuple (aw_cons (ew_sortN T.b.b_sorted (ew_cat ?_)))
      refine ew_Ty call_list_of T.b.b_list (aw_cons (EVgo (ev_name 2) fun H8 e8 => aw_nil ⟨pf, _, rfl, .inr (hf.mono ((e4.trans x46).trans (e7.trans e8))).sq, fun c nc => ?_⟩))
      refine EVgo (te := EW _ _) (ev_name 7) fun H9 e9 => ⟨c, ma, _, _, rfl, rfl, e9 _ _ upd_same, e9 _ _ (Ex.new nc _ _ (e8 _ _ (e7 _ _ hzs))), ?_, fun c2 nc2 => ⟨c2, fs ++ sel L x, rfl, .inl (.inl (by rw [upd_same, List.map_append])), ?_, fun S c3 hSp hSs nc3 => aw_nil ⟨c3, _, rfl, .inl ⟨.inl (.inl upd_same), fun c4 nc4 => ?_⟩⟩⟩⟩
      · rw [List.length_map, List.length_map]
        have := sel_len (L := L) (x := x)
        exact Evl.sz_of (by omega)
      · rw [List.length_append]
        have := sel_len (L := L) (x := x)
        omega
      · have y9 := (Ex.new nc (o := .lst (fs.map iV))).trans e9
        have y12 := ((Ex.new nc2 (o := .lst (fs.map iV ++ (sel L x).map iV))).trans (Ex.new nc3 (o := .lst (S.map iV)))).trans (Ex.new nc4 (o := .tup (S.map iV)))
        have y := (e7.trans e8).trans (y9.trans y12)
        have hfa12 := y _ _ hfa6
        refine ⟨ys, hfa12, ?_, _, _, ys ++ [.ref c4], rfl, Ex.mut ((e4.trans x46).trans y) nfH, ?_, upd_same, ?_⟩
        · rw [hall.1, List.length_range]
          exact Evl.sz_lt (by omega)
        · rw [upd_ne (Ne.symm nfal)]
          exact y _ _ (x46 _ _ hla')
        · rw [List.range_succ]
          exact AllR.snoc (hall.imp fun a z r => (r.kt (Kt.of (x46.trans y))).kt (Kt.updL hfa12)) ((show SdR K fs L x (.ref c4) _ from ⟨S, c4, rfl, upd_same, hSp⟩).kt (Kt.updL hfa12))
  · rintro σ' H' ⟨z6, z7, ys, rfl, e4, hla', hfa', hall⟩
    exact bw_one (sw_ret (EVgo (ev_name 5) fun H5 e5 => q fa ys H5 (e4.trans e5) nfH (e5 _ _ hfa') (hall.imp fun a z r => r.kt (Kt.of e5))))
def spLeast_ (K : PySem.W.Frag) : Sp := fun vs H Q _ => ∃ (n : Nat) (cd t : Addr), vs = [.int (n : Int), .ref cd, .ref t] ∧ ∃ (pf pt : Addr) (fs ts : List Nat) (W : Mx), n ≤ 7 ∧ DnAt H cd n W ∧ H t = some (.tup [.ref pf, .ref pt]) ∧ Tp K H pf (fs.map iV) ∧ Tp K H pt (ts.map iV) ∧ EndsOk n fs ts ∧
  ∀ (p : Addr) (m : Int) (u : V) H', Ex H H' → H' p = some (.tup [.int m, u]) → (∃ A, Sd n (inP fs) (inP ts) A ∧ m = acr n A W) → (∀ A, Sd n (inP fs) (inP ts) A → m ≤ acr n A W) → Q (.ref p) H'
/-! _law_least_sides: slots 0 _law_many, 1 _law_counted, 2 _law_ends_here, 3 _law_sides, 4 _law_weights, 5 _law_least, 6 _law_side, 7 _law_weight_here -/
theorem sc_law_least_sides : FnScope ["_law_many", "_law_counted", "_law_ends_here", "_law_sides", "_law_weights", "_law_least", "_law_side", "_law_weight_here"] ["_law_many", "_law_counted", "_law_ends_here"] (defScope s_law_least_sides) := ⟨rfl, rfl, rfl, by decide +kernel, rfl, by decide +kernel, by decide +kernel⟩
theorem ok_law_least_sides (T : Tops K mg CR CW CN CH) (hsi : Has P w K mg base 1 "_law_sides_between" ["_law_many", "_law_ends_here"] (spSides K)) (hsp : Has P w K mg base 1 "_law_side_parts" ["_law_many", "_law_counted", "_law_side"] (spSideP K)) : Has P w K mg base 2 "_law_least_sides" ["_law_many", "_law_counted", "_law_ends_here"] (spLeast_ K) := by
  refine has_of (k := 1) T.law_least_sides sc_law_least_sides (fun _ _ _ _ _ _ us hl => match us, hl with | [_, _, _], _ => rfl) (fun vs H Q E h => by
    obtain ⟨n, cd, t, rfl, _⟩ := h
    rfl) ?_
  intro f cdv A outer s H0 H vs Q E E0 hr h
  obtain ⟨n, cd, t, rfl, pf, pt, fs, ts, W, hn7, hcd, ht, hf, htt, en, q⟩ := h
  have nd := (sc_law_least_sides).nd
  generalize hL : inner n fs ts = L
  have hLl : L.length ≤ 7 := by
    rw [← hL]
    exact Nat.le_trans inner_len hn7
  have h2L : 2 ^ L.length ≤ 128 := Nat.pow_le_pow_right (by decide) hLl
  refine bw_cons (sw_set 3 (ew_call hsi hr (AVgo (av_cons (ev_name 0) (av_cons (ev_name 2) av_nil)) fun H1 e1 => ⟨n, t, rfl, pf, pt, fs, ts, hn7, e1 _ _ ht, hf.mono e1, htt.mono e1, en, fun pa ys H2 e2 npa hpa hall => ?_⟩)))
  rw [hL] at hall
  have e02 := e1.trans e2
  let wt : Nat → Int := fun x => acr n (inP (fs ++ sel L x)) W
  have hyl : ys.length = 2 ^ L.length := by rw [hall.1, List.length_range]
  refine bw_cons (sw_setLc 4 (own := [("_law_side", 6)]) (lc_seq (l := List.range (2 ^ L.length)) (pf := fun _ => true) (Fx := fun x y H => SdR K fs L x y H) (R := fun x y _ => y = V.int (wt x)) (sg := fun x y => [some (.int (n : Int)), some (.ref cd), some (.ref t), some (.ref pa), none, none, some y, none]) (ev_name 3) (.inl (.inl (.inl hpa))) (by rw [hyl, List.length_range]) (by omega) (fun i x y H3 hx hy e3 => (hall.2 i x y hx hy).kt (Kt.of e3)) (fun x y H1 H2 h e => h.kt (Kt.of e)) (fun x _ y H3 e3 _ s0 H0 C cl fp => gv_name 6) (fun _ _ => rfl) (fun _ _ _ _ _ _ => et_yes) ?_ (fun _ _ _ _ h _ => h) fun wa zs H3 nwa e3 hwa hall3 => ?_))
  · rintro x _ _ y H3 e3 ⟨S, p, rfl, hp, hS⟩ s0 H0 C cl fp
    have hmS : ∀ v, v ∈ S ↔ v ∈ fs ++ sel L x := fun v => hS.mem_iff
    have hSn : S.Nodup := by
      refine hS.nodup_iff.mpr (List.nodup_append.mpr ⟨pw_nd en.fnd, sel_nd (by rw [← hL]; exact inner_nd), fun a ha b hb e => ?_⟩)
      subst e
      have := sel_sub hb
      rw [← hL] at this
      exact (mem_inner.mp this).2.1 ha
    have hSl : ∀ v ∈ S, v < n := fun v hv => by
      rcases List.mem_append.mp ((hmS v).mp hv) with h | h
      · exact en.flt v h
      · have := sel_sub h
        rw [← hL] at this
        exact (mem_inner.mp this).1
    refine EX.ev (ev_call hsp hr (av_cons (ev_name 0) (av_cons (ev_name 1) (av_cons (ev_name 6) av_nil))) (fun H4 e4 => ⟨n, cd, p, rfl, S, W, hn7, hcd.mono (e02.trans (e3.trans e4)), .inl (e4 _ _ hp), hSn, hSl, rfl⟩)) fun H4 e4 => ?_
    show V.int (acr n (inP S) W) = V.int (wt x)
    congr 1
    exact acr_congr fun v _ => by
      rw [Bool.eq_iff_iff, inP_iff, inP_iff]
      exact hmS v
  · have hzs := allR_map hall3
    rw [show (List.range (2 ^ L.length)).filter (fun _ => true) = List.range (2 ^ L.length) from List.filter_eq_self.mpr fun _ _ => rfl] at hzs
    subst hzs
    have hwa' : H3 wa = some (.lst (((List.range (2 ^ L.length)).map wt).map V.int)) := by
      rw [hwa, List.map_map]
      rfl
    have hne : 0 < ((List.range (2 ^ L.length)).map wt).length := by
      rw [List.length_map, List.length_range]
      exact Nat.two_pow_pos _
    refine bw_cons (sw_set 5 (ew_B (cr_min rfl) T.b.b_min (aw_cons (EVgo (ev_name 4) fun H4 e4 => aw_nil ⟨wa, _, rfl, .inl (.inl (e4 _ _ hwa')), hne, fun m hm hmin => ?_⟩))))
    have hmem : ∃ x, x < 2 ^ L.length ∧ wt x = m := by
      obtain ⟨x, hx, e⟩ := List.mem_map.mp hm
      exact ⟨x, List.mem_range.mp hx, e⟩
    have hall' : ∀ x, x < 2 ^ L.length → m ≤ wt x := fun x hx => hmin _ (List.mem_map.mpr ⟨x, List.mem_range.mpr hx, rfl⟩)
    have e04 := e02.trans (e3.trans e4)
    refine bw_one (sw_ret (ew_tup (aw_cons (EVgo (ev_name 5) fun H5 e5 => aw_cons (ew_lcIf (own := [("_law_side", 6), ("_law_weight_here", 7)]) (lc_of (iw_of (pi_zip (by rfl) T.b.b_zip pa_w) (AVgo (av_cons (ev_name 3) (av_cons (ev_name 4) av_nil)) fun H6 e6 => ⟨pa, wa, ys, _, rfl, .inl (.inl (((e3.trans e4).trans (e5.trans e6)) _ _ hpa)), .inl (.inl ((e4.trans (e5.trans e6)) _ _ hwa')), ?_⟩))))))))
    refine lc_goX (l := List.range (2 ^ L.length)) (pf := fun x => decide (wt x = m)) (n := min ys.length (((List.range (2 ^ L.length)).map wt).map V.int).length) (Fx := fun x v H => ∃ qq, v = .ref qq ∧ H qq = some (.tup [ys.getD x .non, .int (wt x)])) (R := fun _ _ _ => True) (sg := fun x _ => [some (.int (n : Int)), some (.ref cd), some (.ref t), some (.ref pa), some (.ref wa), some (.int m), some (ys.getD x .non), some (.int (wt x))]) (walk_zip rfl) (fun H7 e7 => ⟨.inl (.inl (((e3.trans e4).trans ((e5.trans e6).trans e7)) _ _ hpa)), .inl (.inl ((e4.trans ((e5.trans e6).trans e7)) _ _ hwa'))⟩) (by rw [List.length_map, List.length_map, List.length_range, hyl, Nat.min_self]) (by rw [List.length_map, List.length_map, List.length_range, hyl, Nat.min_self]; omega) ?_ ?_ ?_ (fun _ _ => rfl) ?_ (fun _ _ _ _ _ _ _ _ _ _ _ _ => EX.ev (ev_name 6) fun _ _ => trivial) (fun _ _ _ _ h _ => h) ?_
    · rintro i x v H7 H8 hx e7 ⟨T0, u, u2, rfl, hT, rfl, hu1, hu2⟩
      have hxl := (List.getElem?_eq_some_iff.mp hx).1
      rw [List.getElem?_range (by simpa using hxl)] at hx
      cases hx
      replace hu1 : ys[i]? = some u := hu1
      replace hu2 : (((List.range (2 ^ L.length)).map wt).map V.int)[i]? = some u2 := hu2
      refine ⟨Ex.new hT, T0, rfl, ?_⟩
      rw [upd_same, List.getD_eq_getElem?_getD, hu1]
      rw [List.getElem?_map, List.getElem?_map, List.getElem?_range (by simpa using hxl)] at hu2
      cases hu2
      rfl
    · rintro k v H7 H8 ⟨qq, rfl, hq⟩ e
      exact ⟨qq, rfl, e _ _ hq⟩
    · rintro k _ v H7 e7 ⟨qq, rfl, hq⟩ s0 H0 C cl fp
      exact gv_tup2 (.inl (.inl hq)) (gv_name 6) (gv_name 7)
    · rintro k _ v H7 e7 _
      refine tv_b fun s0 H0 C cl fp => tv_is (tv_eq (ev_name 7) (ev_name 5)) ?_
      rw [decide_eq_decide, V.int.injEq]
    · intro c zs H7 nc e7 hzs _
      refine aw_nil ⟨by show 2 ≤ sizeLine; decide, fun p np => q p m (.ref c) _ (e04.trans ((e5.trans e6).trans (e7.trans (Ex.new np)))) upd_same ?_ fun A hA => ?_⟩
      · obtain ⟨x, _, e⟩ := hmem
        exact ⟨_, hL ▸ side_sd en x, e.symm⟩
      · obtain ⟨x, hx, hv⟩ := side_all hA
        rw [hL] at hx hv
        rw [acr_congr fun v hvn => ((hv v hvn).2).symm]
        exact hall' x hx
end
end Cut


namespace Cut
open PySem PySem.Spec PyProof.Rows L2 Evl
/-! ### measure, rows, worth -/
theorem lexP_asym {a b : Nat × Nat} (h : lexP a b) (k : lexP b a) : False := by
  unfold lexP at h k
  omega
theorem lexP_perm : ∀ {l k : List Rw}, l.Perm k → (l.Pairwise fun a b => lexP (a.1, a.2.1) (b.1, b.2.1)) → (k.Pairwise fun a b => lexP (a.1, a.2.1) (b.1, b.2.1)) → l = k
  | [], k, p, _, _ => (List.nil_perm.mp p).symm
  | a :: l, [], p, _, _ => absurd (List.Perm.length_eq p) (by simp)
  | a :: l, b :: k, p, h1, h2 => by
    have e : a = b := by
      have ha : a ∈ b :: k := p.mem_iff.mp List.mem_cons_self
      have hb : b ∈ a :: l := p.mem_iff.mpr List.mem_cons_self
      rcases List.mem_cons.mp ha with e | ha
      · exact e
      · rcases List.mem_cons.mp hb with e | hb
        · exact e.symm
        · exact (lexP_asym ((List.pairwise_cons.mp h1).1 b hb) ((List.pairwise_cons.mp h2).1 a ha)).elim
    subst e
    rw [lexP_perm (List.Perm.cons_inv p) (List.pairwise_cons.mp h1).2 (List.pairwise_cons.mp h2).2]
section
variable {X : Cx}
/-- len(a set of tuples) -/
theorem cr_lenSetT : CallR X (.builtin "len") (fun vs H Q => ∃ (a : Addr) (L : List (Addr × List Int)), vs = [.ref a] ∧ H a = some (SetTO X.prog X.w a L) ∧ (∀ p ∈ L, SqT X.K H p.1 (p.2.map V.int)) ∧ ((L.map (·.2)).Nodup → Q (.int (L.length : Int)) H)) := by
  intro pins s σ H vs us Q I r h
  obtain ⟨a, L, rfl, ha, hk, q⟩ := h
  have R0 : SetT0 X.prog X.w s.heap a L := (I.hok a _ ha).1
  obtain ⟨es, ep, t, R⟩ := R0.full fun p hp => I.isT (hk p hp)
  rw [Vals.ref1 r]
  obtain ⟨o, ho, hex, hd⟩ := R.ob
  have hsz := R.size
  have hfew := R.few
  exact call_len_set ho hex hd R.fits (by omega) ⟨.int (L.length : Int), H, I.tok _, ⟨_, by rw [hsz]⟩, q R.nd⟩
end
theorem nat_len_sub {α : Type} [DecidableEq α] : ∀ {l k : List α}, l.Nodup → (∀ x ∈ l, x ∈ k) → l.length ≤ k.length
  | [], _, _, _ => Nat.zero_le _
  | x :: l, k, hn, hs => by
    obtain ⟨h1, h2⟩ := List.nodup_cons.mp hn
    have hx : x ∈ k := hs x List.mem_cons_self
    have ih := nat_len_sub (l := l) (k := k.erase x) h2 fun y hy => (List.mem_erase_of_ne (show y ≠ x from fun e => h1 (by rw [← e]; exact hy))).2 (hs y (List.mem_cons_of_mem _ hy))
    have e := List.length_erase_of_mem hx
    have hp : 0 < k.length := List.length_pos_of_mem hx
    rw [List.length_cons]
    omega
/-- what comes in less what goes out, by the rows -/
def srp (rows : List Rw) (u : Nat) : Int := (rows.map fun t => (if t.2.1 = u then (t.2.2 : Int) else 0) - if t.1 = u then (t.2.2 : Int) else 0).sum
theorem srp_snoc (rows : List Rw) (t : Rw) (u : Nat) : srp (rows ++ [t]) u = srp rows u + ((if t.2.1 = u then (t.2.2 : Int) else 0) - if t.1 = u then (t.2.2 : Int) else 0) := by
  unfold srp
  rw [List.map_append, List.sum_append, List.map_cons, List.map_nil, List.sum_singleton]
theorem srp_in : ∀ {rows : List Rw} {u : Nat}, (∀ t ∈ rows, t.1 ≠ t.2.1) → srp rows u = (inR rows [u] : Int) - (outR rows [u] : Int)
  | [], _, _ => rfl
  | t :: rows, u, h => by
    have ih := srp_in (rows := rows) (u := u) fun t' h' => h t' (List.mem_cons_of_mem _ h')
    have ht := h t List.mem_cons_self
    have e1 : srp (t :: rows) u = ((if t.2.1 = u then (t.2.2 : Int) else 0) - if t.1 = u then (t.2.2 : Int) else 0) + srp rows u := by
      unfold srp
      rw [List.map_cons, List.sum_cons]
    have e2 : inR (t :: rows) [u] = (if t.2.1 = u then t.2.2 else 0) + inR rows [u] := by
      unfold inR
      rw [List.filter_cons]
      by_cases c : t.2.1 = u
      · have c2 : t.1 ≠ u := fun z => ht (z.trans c.symm)
        rw [if_pos (by simp [c, c2]), if_pos c, List.map_cons, List.sum_cons]
      · rw [if_neg (by simp [c]), if_neg c, Nat.zero_add]
    have e3 : outR (t :: rows) [u] = (if t.1 = u then t.2.2 else 0) + outR rows [u] := by
      unfold outR
      rw [List.filter_cons]
      by_cases c : t.1 = u
      · have c2 : t.2.1 ≠ u := fun z => ht (c.trans z.symm)
        rw [if_pos (by simp [c, c2]), if_pos c, List.map_cons, List.sum_cons]
      · rw [if_neg (by simp [c]), if_neg c, Nat.zero_add]
    rw [e1, e2, e3, ih]
    by_cases c1 : t.2.1 = u <;> by_cases c2 : t.1 = u <;> simp [c1, c2] <;> omega
theorem FlRows.srp {n : Nat} {F : Mx} {rows : List Rw} (h : FlRows n F rows) (hA : Anti F) {u : Nat} (hu : u < n) : Cut.srp rows u = - ot n F u := by
  rw [srp_in fun t ht => (h.ne hA ht).2.2.1]
  have := out_in1 h hA hu
  omega
theorem FlRows.pairs {n : Nat} {F : Mx} {rows : List Rw} (h : FlRows n F rows) (hA : Anti F) : (rows.map fun t => (min t.1 t.2.1, max t.1 t.2.1)).Nodup := by
  refine List.pairwise_map.mpr ((List.pairwise_map.mp h.nd).imp_of_mem fun {a b} ha hb hab e => hab ?_)
  obtain ⟨a1, a2, a3, a4, a5⟩ := h.ne hA ha
  obtain ⟨b1, b2, b3, b4, b5⟩ := h.ne hA hb
  obtain ⟨e1, e2⟩ := Prod.mk.inj e
  by_cases c : a.1 = b.1
  · rw [c, show a.2.1 = b.2.1 by omega]
  · exfalso
    have c1 : a.1 = b.2.1 := by omega
    have c2 : a.2.1 = b.1 := by omega
    have h1 := hA a.1 a.2.1
    rw [c1, c2] at h1
    rw [c1, c2] at a5
    omega
theorem gcd_lo (m : Nat) : Nat.gcd 55440 (loB m) = loB m := Nat.gcd_eq_right (loB_dvd m)
section
variable {P : Program} {w : World} {K : PySem.W.Frag} {mg : Str → Option Value} {base : Heap} {CR CW CN CH : Addr}
def spMeas (K : PySem.W.Frag) : Sp := spV fun vs H v => ∃ y, vs = [y] ∧ ∃ rows, FlAt K H y rows ∧ v = .int 55440
/-! _law_measure: slots 0 _law_flow, 1 _law_found, 2 _law_i, 3 _law_j, 4 _law_amount_here, 5 _law_one, 6 _law_other -/
theorem sc_law_measure : FnScope ["_law_flow", "_law_found", "_law_i", "_law_j", "_law_amount_here", "_law_one", "_law_other"] ["_law_flow"] (defScope s_law_measure) := ⟨rfl, rfl, rfl, by decide +kernel, rfl, by decide +kernel, by decide +kernel⟩
theorem ok_law_measure (T : Tops K mg CR CW CN CH) : Has P w K mg base 1 "_law_measure" ["_law_flow"] (spMeas K) := by
  refine has_of (k := 0) T.law_measure sc_law_measure (fun _ _ _ _ _ _ us hl => match us, hl with | [_], _ => rfl) (fun vs H Q E h => by
    obtain ⟨_, ⟨y, rfl, _⟩, _⟩ := h
    rfl) ?_
  intro f cdv A outer s H0 H vs Q E E0 hr h
  obtain ⟨v, ⟨y, rfl, rows, ⟨fp, ys, rfl, hfp, hrows⟩, rfl⟩, q⟩ := h
  have nd := (sc_law_measure).nd
  refine bw_cons (sw_set 1 (EVgo ev_int fun H1 e1 => ?_))
  refine bw_cons (sw_forT PassesOwn.never (p := fp) (xs := ys) (ev_name 0) (SqT.of (e1 _ _ hfp)) (fun k σ' H' => ∃ z2 z3 z4 z5 z6, σ' = [some (.ref fp), some (.int 55440), z2, z3, z4, z5, z6] ∧ Ex H H') (fun H2 e2 => ⟨none, none, none, none, none, rfl, e1.trans e2⟩) (fun i σ' H' _ ⟨_, _, _, _, _, _, e⟩ => SqT.of (e _ _ hfp)) ?_ ?_)
  · rintro k x σ' H' hk ⟨z2, z3, z4, z5, z6, rfl, e2⟩
    obtain ⟨t, ht, qq, a, rfl, hq, hT⟩ := allR_mem hrows (List.mem_of_getElem? hk)
    have hq2 := e2 _ _ hq
    have hT2 := hT.mono e2
    have b1 := loB_pos t.2.2
    have b2 := loB_le t.2.2
    refine gw_tup (n := 3) (SqT.of hq2) (gws_cons (gw_name 2 (gws_cons (gw_name 3 (gws_cons (gw_name 4 (gws_nil ?_)))))))
    refine bw_cons (sw_par (i := 5) (j := 6) (AVgo (av_cons (ev_name 1) (av_cons (ev_ixTn (v := .int (loB t.2.2 : Nat)) 1 (ev_name 4) ev_int hT2.sq rfl) av_nil)) fun H3 e3 => ⟨_, _, rfl, ?_⟩))
    refine bw_cons (sw_while PassesOwn.never (fun σ H' => ∃ c d : Nat, σ = [some (.ref fp), some (.int 55440), some (iV t.1), some (iV t.2.1), some (.ref a), some (.int (c : Int)), some (.int (d : Int))] ∧ Nat.gcd c d = loB t.2.2 ∧ Ex H H') (fun σ _ => match σ with | [_, _, _, _, _, _, some (.int d)] => d.toNat | _ => 0) ⟨55440, loB t.2.2, rfl, gcd_lo _, e2.trans e3⟩ ?_)
    rintro σ H4 ⟨c, d, rfl, hg, e4⟩
    refine TVgo (tv_ne (ev_name 6) ev_int) fun H5 e5 => ?_
    refine ite2 (fun hd => ?_) (fun hd => ?_)
    · have hd : 0 < d := by
        by_cases c : d = 0
        · subst c
          simp at hd
        · omega
      refine bw_one (sw_par (i := 5) (j := 6) (AVgo (av_cons (ev_name 6) (av_cons (ev_mod (ev_name 5) (ev_name 6) (by omega)) av_nil)) fun H6 e6 => ⟨_, _, rfl, ⟨d, c % d, rfl, ?_, (e4.trans e5).trans e6⟩, ?_⟩))
      · rw [← hg, Nat.gcd_comm c d, Nat.gcd_rec d c, Nat.gcd_comm]
      · show (c % d : Int).toNat < (d : Int).toNat
        have := Nat.mod_lt c hd
        omega
    · have hd : d = 0 := by
        by_cases c : d = 0
        · exact c
        · refine absurd ?_ hd
          rw [decide_eq_false (fun z => c (by have := V.int.inj z; omega))]
          rfl
      subst hd
      rw [Nat.gcd_zero_right] at hg
      subst hg
      have e45 := e4.trans e5
      refine bw_one (sw_set 1 (EVgo (ev_is (w := .int 55440) (ev_mul (ev_fdiv (ev_name 1) (ev_name 5) (div_loC _)) (ev_ixTn (v := .int (loB t.2.2 : Nat)) 1 (ev_name 4) ev_int (hT.mono e45).sq rfl) (cmulR (loB_i _))) ?_) fun H6 e6 => ⟨_, _, _, _, _, rfl, e45.trans e6⟩))
      have h5 : (55440 : Int) / (loB t.2.2 : Int) * (loB t.2.2 : Int) = ((55440 / loB t.2.2 * loB t.2.2 : Nat) : Int) := rfl
      rw [h5, Nat.div_mul_cancel (loB_dvd _)]
      rfl
  · rintro σ' H' ⟨z2, z3, z4, z5, z6, rfl, e2⟩
    exact bw_one (sw_ret (EVgo (ev_name 1) fun H3 e3 => q H3 (e2.trans e3)))
theorem tyTp {H : Hp} {p : Addr} {xs : List V} (h : Tp K H p xs) : TyX K H (.ref p) (.type "tuple") := by
  rcases h with h | ⟨o, its, n, h, hc, _⟩
  · exact .base (.tup h)
  · exact .kTuple h hc
def spAreRows (K : PySem.W.Frag) : Sp := spV fun vs H v => ∃ y, vs = [y] ∧ ∃ n rows F, n ≤ 7 ∧ FlAt K H y rows ∧ FlRows n F rows ∧ Anti F ∧ v = .bl true
/-! _law_are_rows: slots 0 _law_flow, 1 _law_row, 2 _law_one, 3 _law_other -/
theorem sc_law_are_rows : FnScope ["_law_flow", "_law_row", "_law_one", "_law_other"] ["_law_flow"] (defScope s_law_are_rows) := ⟨rfl, rfl, rfl, by decide +kernel, rfl, by decide +kernel, by decide +kernel⟩
theorem ok_law_are_rows (T : Tops K mg CR CW CN CH) : Has P w K mg base 1 "_law_are_rows" ["_law_flow"] (spAreRows K) := by
  refine has_of (k := 0) T.law_are_rows sc_law_are_rows (fun _ _ _ _ _ _ us hl => match us, hl with | [_], _ => rfl) (fun vs H Q E h => by
    obtain ⟨_, ⟨y, rfl, _⟩, _⟩ := h
    rfl) ?_
  intro f cdv A outer s H0 H vs Q E E0 hr h
  obtain ⟨v, ⟨y, rfl, n, rows, F, hn7, ⟨fp, ys, rfl, hfp, hrows⟩, hF, hA, rfl⟩, q⟩ := h
  have nd := (sc_law_are_rows).nd
  have hu64 : (CxD P w K mg base ["_law_flow", "_law_row", "_law_one", "_law_other"] "_law_are_rows" s_law_are_rows f cdv A outer s H0 E0).A.units + 64 < cLine := hr.units
  refine bw_cons (sw_ifF (tv_is (tv_not (tv_val (ev_isi (t := "tuple") (T := "tuple") (k := true) T.b.b_isinstance T.b.b_tuple (ev_name 0) (fun H1 e1 => .base (.tup (e1 _ _ hfp)))))) rfl) fun H1 e1 => bw_nil ?_)
  refine bw_cons (sw_forT PassesOwn.never (p := fp) (xs := ys) (ev_name 0) (SqT.of (e1 _ _ hfp)) (fun k σ' H' => ∃ z1 z2 z3, σ' = [some (.ref fp), z1, z2, z3] ∧ Ex H H') (fun H2 e2 => ⟨none, none, none, rfl, e1.trans e2⟩) (fun i σ' H' _ ⟨_, _, _, _, e⟩ => SqT.of (e _ _ hfp)) ?_ ?_)
  · rintro k x σ' H' hk ⟨z1, z2, z3, rfl, e2⟩
    obtain ⟨t, ht, qq, a, rfl, hq, hT⟩ := allR_mem hrows (List.mem_of_getElem? hk)
    have hq2 := e2 _ _ hq
    have hT2 := hT.mono e2
    have b1 := loB_pos t.2.2
    have ha0 := loA_pos (hF.ne hA ht).2.2.2.1
    have hcop := lo_cop t.2.2
    refine gw_name 1 ?_
    refine bw_cons (sw_ifF (tv_is (tv_bool (wv_or (k := false) (tv_is (tv_not (tv_val (ev_isi (t := "tuple") (T := "tuple") (k := true) T.b.b_isinstance T.b.b_tuple (ev_name 1) (fun H1 e1 => .base (.tup (e1 _ _ hq2)))))) rfl) fun _ => wv_or (k := false) (tv_is (tv_ne (ev_len T.b.b_len (ev_name 1) (.inr (SqT.of hq2))) ev_int) rfl) fun _ => wv_or (k := false) (tv_is (tv_not (tv_val (ev_isi (t := "tuple") (T := "tuple") (k := true) T.b.b_isinstance T.b.b_tuple (ev_ixTn (v := .ref a) 2 (ev_name 1) ev_int (SqT.of hq2) rfl) (fun H1 e1 => tyTp (hT2.mono e1))))) rfl) fun _ => wv_one_or (tv_is (tv_ne (ev_len T.b.b_len (ev_ixTn (v := .ref a) 2 (ev_name 1) ev_int (SqT.of hq2) rfl) (.inr hT2.sq)) ev_int) (l := false) rfl))) rfl) fun H3 e3 => bw_nil ?_)
    refine bw_cons (sw_asg (EVgo (ev_ixTn (v := .ref a) 2 (ev_name 1) ev_int (SqT.of (e3 _ _ hq2)) rfl) fun H4 e4 => gw_tup (n := 2) ((hT2.mono e3).mono e4).sq (gws_cons (gw_name 2 (gws_cons (gw_name 3 (gws_nil ?_)))))))
    refine bw_cons (sw_ifF (tv_is (tv_bool (wv_or (k := false) (tv_is (tv_lt (ev_name 2) ev_int) (decide_eq_false (by omega))) fun _ => wv_one_or (tv_is (tv_lt (ev_name 3) ev_int) (decide_eq_false (by omega))))) rfl) fun H5 e5 => bw_nil ?_)
    refine bw_cons (sw_while PassesOwn.never (fun σ H' => ∃ c d : Nat, σ = [some (.ref fp), some (.ref qq), some (.int (c : Int)), some (.int (d : Int))] ∧ Nat.gcd c d = 1 ∧ Ex H H') (fun σ _ => match σ with | [_, _, _, some (.int d)] => d.toNat | _ => 0) ⟨loA t.2.2, loB t.2.2, rfl, hcop, (e2.trans e3).trans (e4.trans e5)⟩ ?_)
    rintro σ H6 ⟨c, d, rfl, hg, e6⟩
    refine TVgo (tv_ne (ev_name 3) ev_int) fun H7 e7 => ?_
    refine ite2 (fun hd => ?_) (fun hd => ?_)
    · have hd : 0 < d := by
        by_cases c : d = 0
        · subst c
          simp at hd
        · omega
      refine bw_one (sw_par (i := 2) (j := 3) (AVgo (av_cons (ev_name 3) (av_cons (ev_mod (ev_name 2) (ev_name 3) (by omega)) av_nil)) fun H8 e8 => ⟨_, _, rfl, ⟨d, c % d, rfl, ?_, (e6.trans e7).trans e8⟩, ?_⟩))
      · rw [← hg, Nat.gcd_comm c d, Nat.gcd_rec d c, Nat.gcd_comm]
      · show (c % d : Int).toNat < (d : Int).toNat
        have := Nat.mod_lt c hd
        omega
    · have hd : d = 0 := by
        by_cases c : d = 0
        · exact c
        · refine absurd ?_ hd
          rw [decide_eq_false (fun z => c (by have := V.int.inj z; omega))]
          rfl
      subst hd
      rw [Nat.gcd_zero_right] at hg
      subst hg
      exact bw_one (sw_ifF (tv_is (tv_ne (ev_name 2) ev_int) rfl) fun H8 e8 => bw_nil ⟨_, _, _, rfl, (e6.trans e7).trans e8⟩)
  · rintro σ' H' ⟨z1, z2, z3, rfl, e2⟩
    have hlen := hF.len hn7
    refine bw_one (sw_ret (ew_of (pe_cmpR (op_eqD hu64) pe_w pe_w (nomark _)) (ew_Ty call_list_of T.b.b_list (aw_cons (EVgo (ev_name 0) fun H3 e3 => aw_nil ⟨fp, ys, rfl, .inr (SqT.of ((e2.trans e3) _ _ hfp)), fun c nc => ?_⟩)))))
    refine ew_B (cr_sortRowT hu64) T.b.b_sorted (aw_cons (EVgo (te := EW _ _) (ev_name 0) fun H4 e4 => aw_nil ⟨fp, ys, rows, rfl, SqT.of (e4 _ _ (Ex.new nc _ _ ((e2.trans e3) _ _ hfp))), by omega, hrows.imp fun t y r => r.kt (Kt.of ((e2.trans e3).trans ((Ex.new nc).trans e4))), hF.nd, fun t ht => ?_, fun zs rows' d hperm hpw hall' nd' => ?_⟩))
    · obtain ⟨a, b, _⟩ := hF.ne hA ht
      omega
    · have er := lexP_perm hperm hpw hF.up
      subst er
      have x4 := (e2.trans e3).trans ((Ex.new nc (o := .lst ys)).trans e4)
      have hc5 : (upd H4 d (.lst zs)) c = some (.lst ys) := Ex.new nd' _ _ (e4 _ _ upd_same)
      have okR : okA (rows'.map dRw) = true := okA_map fun t _ => ok_dRw t
      have deR : PyData.depthAll (rows'.map dRw) ≤ 60 := depA_map fun t _ => Nat.le_trans (dep_dRw t) (by decide)
      refine ⟨.list (rows'.map dRw), .list (rows'.map dRw), .lst (.inl (.inl hc5)) (dp_rows (hrows.imp fun t y r => r.kt (Kt.of (x4.trans (Ex.new nd'))))), .lst (.inl (.inl upd_same)) (dp_rows (hall'.imp fun t y r => r.kt (Kt.of (Ex.new nd')))), shL okR deR, shL okR deR, ?_⟩
      rw [(eqv_listL okR okR).mpr rfl]
      exact q _ (x4.trans (Ex.new nd'))
def spWorth (K : PySem.W.Frag) : Sp := spV fun vs H v => ∃ (n : Nat) (cd t : Addr) (y : V), vs = [.int (n : Int), .ref cd, .ref t, y] ∧ ∃ (pf pt : Addr) (fs ts : List Nat) (W : Mx) (rows : List Rw) (F : Mx), n ≤ 7 ∧ DnAt H cd n W ∧ H t = some (.tup [.ref pf, .ref pt]) ∧ Tp K H pf (fs.map iV) ∧ Tp K H pt (ts.map iV) ∧ EndsOk n fs ts ∧ FlAt K H y rows ∧ FlRows n F rows ∧ Flw n W (inP fs) (inP ts) F ∧ v = .int (wor n (inP fs) F)
/-! _law_worth: slots 0 _law_many, 1 _law_counted, 2 _law_ends_here, 3 _law_flow, 4 _law_measure_here, 5 _law_surplus, 6 _law_i, 7 _law_j, 8 _law_amount_here, 9 _law_number, 10 _law_pairs_here, 11 _law_inner, 12 _law_worth_here, 13 _law_row, 14 _law_place -/
theorem sc_law_worth : FnScope ["_law_many", "_law_counted", "_law_ends_here", "_law_flow", "_law_measure_here", "_law_surplus", "_law_i", "_law_j", "_law_amount_here", "_law_number", "_law_pairs_here", "_law_inner", "_law_worth_here", "_law_row", "_law_place"] ["_law_many", "_law_counted", "_law_ends_here", "_law_flow"] (defScope s_law_worth) := ⟨rfl, rfl, rfl, by decide +kernel, rfl, by decide +kernel, by decide +kernel⟩
theorem ok_law_worth (T : Tops K mg CR CW CN CH) (har : Has P w K mg base 1 "_law_are_rows" ["_law_flow"] (spAreRows K)) (hme : Has P w K mg base 1 "_law_measure" ["_law_flow"] (spMeas K)) : Has P w K mg base 2 "_law_worth" ["_law_many", "_law_counted", "_law_ends_here", "_law_flow"] (spWorth K) := by
  refine has_of (k := 1) T.law_worth sc_law_worth (fun _ _ _ _ _ _ us hl => match us, hl with | [_, _, _, _], _ => rfl) (fun vs H Q E h => by
    obtain ⟨_, ⟨n, cd, t, y, rfl, _⟩, _⟩ := h
    rfl) ?_
  intro f cdv A outer s H0 H vs Q E E0 hr h
  obtain ⟨v, ⟨n, cd, tt, y, rfl, pf, pt, fs, ts, W, rows, F, hn7, hcd, htt, hf, ht, en, hfl, hF, hflw, rfl⟩, q⟩ := h
  have nd := (sc_law_worth).nd
  have hu := hu_of hr
  have hu64 : (CxD P w K mg base ["_law_many", "_law_counted", "_law_ends_here", "_law_flow", "_law_measure_here", "_law_surplus", "_law_i", "_law_j", "_law_amount_here", "_law_number", "_law_pairs_here", "_law_inner", "_law_worth_here", "_law_row", "_law_place"] "_law_worth" s_law_worth f cdv A outer s H0 E0).A.units + 64 < cLine := hr.units
  have hA := hflw.anti
  have hlen := hF.len hn7
  refine bw_cons (sw_ifF (tv_is (tv_not (tv_val (ev_call har hr (av_cons (ev_name 3) av_nil) (fun H1 e1 => ⟨y, rfl, n, rows, F, hn7, hfl.kt (Kt.of e1), hF, hA, rfl⟩)))) rfl) fun H1 e1 => bw_nil ?_)
  refine bw_cons (sw_set 4 (EVgo (ev_call hme hr (av_cons (ev_name 3) av_nil) (fun H2 e2 => ⟨y, rfl, rows, hfl.kt (Kt.of (e1.trans e2)), rfl⟩)) fun H2 e2 => ?_))
  refine bw_cons (sw_set 5 (ew_rep (v := .int 0) (n := n) ev_int (by omega) (fun H3 e3 => ev_name 0) fun sa H3 e3 nsa hsa => ?_))
  have nsH : H sa = none := Evl.fresh_back (e1.trans e2) nsa
  have e03 := (e1.trans e2).trans e3
  obtain ⟨fp, ys, rfl, hfp, hrows⟩ := hfl
  refine bw_cons (sw_forT PassesOwn.never (p := fp) (xs := ys) (ev_name 3) (SqT.of (e03 _ _ hfp)) (fun k σ' H' => ∃ z6 z7 z8 z9, σ' = [some (.int (n : Int)), some (.ref cd), some (.ref tt), some (.ref fp), some (.int 55440), some (.ref sa), z6, z7, z8, z9, none, none, none, none, none] ∧ Ex H H' ∧ H' sa = some (.lst ((List.range n).map fun u => .int (srp (rows.take k) u)))) (fun H4 e4 => ⟨none, none, none, none, rfl, e03.trans e4, e4 _ _ hsa⟩) (fun i σ' H' _ ⟨_, _, _, _, _, e, _⟩ => SqT.of (e _ _ hfp)) ?_ ?_)
  · rintro k x σ' H' hk ⟨z6, z7, z8, z9, rfl, e4, hsa'⟩
    obtain ⟨t, hkt⟩ : ∃ t, rows[k]? = some t := ⟨_, List.getElem?_eq_getElem (by have := (List.getElem?_eq_some_iff.mp hk).1; rw [hrows.1] at this; exact this)⟩
    obtain ⟨qq, a, rfl, hq, hT⟩ := hrows.2 k t x hkt hk
    obtain ⟨hi, hj, hij, hm0, hFm⟩ := hF.ne hA (List.mem_of_getElem? hkt)
    have hT4 := hT.mono e4
    refine gw_tup (n := 3) (SqT.of (e4 _ _ hq)) (gws_cons (gw_name 6 (gws_cons (gw_name 7 (gws_cons (gw_name 8 (gws_nil ?_)))))))
    refine bw_cons (sw_set 9 (EVgo (ev_is (w := .int (t.2.2 : Int)) (ev_mul (ev_ixTn (v := .int (loA t.2.2 : Nat)) 0 (ev_name 8) ev_int hT4.sq rfl) (ev_fdiv (ev_name 4) (ev_ixTn (v := .int (loB t.2.2 : Nat)) 1 (ev_name 8) ev_int hT4.sq rfl) (div_loC _)) (cmulR (div_lo _))) (by rw [mul_lo])) fun H5 e5 => ?_))
    obtain ⟨kvs, hk1, hk2⟩ := (hcd.mono (e4.trans e5)).get hi hj
    refine bw_cons (sw_ifF (tv_is (tv_gt (ev_name 9) (ev_mul (ev_get2 (k := kp t.1 t.2.1) hu (ev_name 1) (evu_tup (av_cons (ev_name 6) (av_cons (ev_name 7) av_nil))) ev_int hk1 hk2) (ev_fdiv (ev_name 4) ev_int ⟨by decide, by decide⟩) (cmulR (by decide)))) (decide_eq_false ?_)) fun H6 e6 => bw_nil ?_)
    · have := hflw.cap t.1 t.2.1 hi hj
      rw [show (55440 : Int) / 55440 = 1 from rfl, Int.mul_one]
      omega
    have e46 := e4.trans (e5.trans e6)
    have hs6 : H6 sa = some (.lst ((List.range n).map fun u => .int (srp (rows.take k) u))) := (e5.trans e6) _ _ hsa'
    have hget : ∀ {u : Nat} {g : Nat → Int}, u < n → ((List.range n).map fun u => V.int (g u))[u]? = some (.int (g u)) := fun {u g} hu => by rw [List.getElem?_map, List.getElem?_range hu]; rfl
    have hset : ∀ {u : Nat} {g : Nat → Int} {c : Int}, u < n → ((List.range n).map fun u => V.int (g u)).set u (.int c) = (List.range n).map fun x => V.int (if x = u then c else g x) := fun {u g c} hu => by
      apply List.ext_getElem?
      intro x
      rw [List.getElem?_set, List.length_map, List.length_range, List.getElem?_map, List.getElem?_map]
      by_cases c1 : x < n
      · rw [List.getElem?_range c1]
        by_cases c2 : u = x
        · subst c2
          rw [if_pos rfl, if_pos c1]
          simp
        · rw [if_neg c2]
          simp [Ne.symm c2]
      · rw [List.getElem?_eq_none (by rw [List.length_range]; omega)]
        by_cases c2 : u = x
        · omega
        · rw [if_neg c2]
          rfl
    refine bw_cons (sw_setL (EVgo (ev_sub (ev_ixLn (v := .int (srp (rows.take k) t.1)) t.1 (ev_name 5) (ev_name 6) (.inl (.inl hs6)) (hget hi)) (ev_name 9)) fun H7 e7 => EVgo (ev_name 5) fun H8 e8 => EVgo (ev_name 6) fun H9 e9 => ⟨sa, _, _, t.1, rfl, rfl, ((e7.trans e8).trans e9) _ _ hs6, Evl.ixN_nat (by rw [List.length_map, List.length_range]; exact hi), ?_⟩))
    rw [hset hi]
    have e69 : Ex H (upd H9 sa (.lst ((List.range n).map fun x => V.int (if x = t.1 then srp (rows.take k) t.1 - (t.2.2 : Int) else srp (rows.take k) x)))) := Ex.mut (e46.trans ((e7.trans e8).trans e9)) nsH
    have hsA : (upd H9 sa (.lst ((List.range n).map fun x => V.int (if x = t.1 then srp (rows.take k) t.1 - (t.2.2 : Int) else srp (rows.take k) x)))) sa = some (.lst ((List.range n).map fun x => V.int (if x = t.1 then srp (rows.take k) t.1 - (t.2.2 : Int) else srp (rows.take k) x))) := upd_same
    generalize upd H9 sa (.lst ((List.range n).map fun x => V.int (if x = t.1 then srp (rows.take k) t.1 - (t.2.2 : Int) else srp (rows.take k) x))) = Ha at e69 hsA
    refine bw_one (sw_setL (EVgo (ev_add (ev_ixLn (v := .int (srp (rows.take k) t.2.1)) t.2.1 (ev_name 5) (ev_name 7) (.inl (.inl hsA)) (by rw [hget hj, if_neg (Ne.symm hij)])) (ev_name 9)) fun Hb eb => EVgo (ev_name 5) fun Hc ec => EVgo (ev_name 7) fun Hd ed => ⟨sa, _, _, t.2.1, rfl, rfl, ((eb.trans ec).trans ed) _ _ hsA, Evl.ixN_nat (by rw [List.length_map, List.length_range]; exact hj), ?_⟩))
    rw [hset hj]
    refine ⟨_, _, _, _, rfl, Ex.mut (e69.trans ((eb.trans ec).trans ed)) nsH, ?_⟩
    rw [upd_same, take_snoc hkt]
    congr 2
    refine List.map_congr_left fun u _ => ?_
    rw [srp_snoc]
    congr 1
    by_cases c1 : t.2.1 = u
    · have c2 : ¬ t.1 = u := fun z => hij (z.trans c1.symm)
      rw [if_pos c1.symm, if_pos c1, if_neg c2, c1]
      omega
    · rw [if_neg (show ¬ u = t.2.1 from fun z => c1 z.symm), if_neg c1]
      by_cases c2 : t.1 = u
      · rw [if_pos c2.symm, if_pos c2, c2]
        omega
      · rw [if_neg (show ¬ u = t.1 from fun z => c2 z.symm), if_neg c2]
        omega
  · rintro σ' H' ⟨z6, z7, z8, z9, rfl, e4, hsa'⟩
    rw [hrows.1, List.take_length] at hsa'
    have hsr : ((List.range n).map fun u => V.int (srp rows u)) = (List.range n).map fun u => V.int (- ot n F u) := List.map_congr_left fun u hu => by rw [hF.srp hA (List.mem_range.mp hu)]
    rw [hsr] at hsa'
    have hyl : ys.length ≤ 49 := by
      rw [hrows.1]
      exact hlen
    have hrl : rows.length = ys.length := hrows.1.symm
    -- the pairs
    refine bw_cons (sw_setLc 10 (own := [("_law_row", 13)]) (lc_seq (l := rows) (pf := fun _ => true) (Fx := fun t x H => RowR K t x H) (R := fun t y H => PrR (min t.1 t.2.1, max t.1 t.2.1) y H) (sg := fun t x => [some (.int (n : Int)), some (.ref cd), some (.ref tt), some (.ref fp), some (.int 55440), some (.ref sa), z6, z7, z8, z9, none, none, none, some x, none]) (ev_name 3) (.inr (SqT.of (e4 _ _ hfp))) hrl (by omega) (fun i t x H2 ht hx e2 => (hrows.2 i t x ht hx).kt (Kt.of (e4.trans e2))) (fun t x H1 H2 h e => h.kt (Kt.of e)) (fun t _ x H5 e5 _ s0 H0 C cl fp => gv_name 13) (fun _ _ => rfl) (fun _ _ _ _ _ _ => et_yes) ?_ (fun t y H1 H2 h k => h.kt k) fun pa zs H5 npa e5 hpa hall5 => ?_))
    · rintro t _ _ x H5 e5 ⟨qq, a, rfl, hq, hT⟩ s0 H0 C cl fp
      intro H6 e6 Q' q'
      refine EUgo (evu_tup (av_cons (ev_is (ev_min2 T.b.b_min (ev_ixTn (v := iV t.1) 0 (ev_name 13) ev_int (SqT.of (e6 _ _ hq)) rfl) (ev_ixTn (v := iV t.2.1) 1 (ev_name 13) ev_int (SqT.of (e6 _ _ hq)) rfl)) (by show V.int _ = V.int ((min t.1 t.2.1 : Nat) : Int); congr 1; omega)) (av_cons (ev_is (ev_max2 T.b.b_max (ev_ixTn (v := iV t.1) 0 (ev_name 13) ev_int (SqT.of (e6 _ _ hq)) rfl) (ev_ixTn (v := iV t.2.1) 1 (ev_name 13) ev_int (SqT.of (e6 _ _ hq)) rfl)) (by show V.int _ = V.int ((max t.1 t.2.1 : Nat) : Int); congr 1; omega)) av_nil))) fun p H7 np e7 hp => q' _ _ e7 ⟨p, rfl, hp⟩
    rw [show rows.filter (fun _ => true) = rows from List.filter_eq_self.mpr fun _ _ => rfl] at hall5
    have hzl : zs.length = rows.length := hall5.1
    have e05 := e4.trans e5
    -- the inner places
    refine bw_cons (sw_setLcIf 11 (own := [("_law_place", 14)]) (lc_rIf (n := n) (pf := fun i => !decide (i ∈ fs) && !decide (i ∈ ts)) (g := iV) T.b.b_range (ev_name 0) (by omega) (fun i => [some (.int (n : Int)), some (.ref cd), some (.ref tt), some (.ref fp), some (.int 55440), some (.ref sa), z6, z7, z8, z9, some (.ref pa), none, none, none, some (iV i)]) (fun i hi s0 H0 C cl fp => gv_name 14) (fun _ => rfl) (fun i hi s0 H0 C cl fp => tv_is (tv_bool (wv_and (tv_niS (x := iV i) (ev_name 14) (ev_ixTn (v := .ref pf) 0 (ev_name 2) ev_int (SqT.of (e05 _ _ htt)) rfl) (.inr (hf.mono e05).sq) rfl (flat_iV _)) fun _ => wv_one_and (tv_niS (x := iV i) (ev_name 14) (ev_ixTn (v := .ref pt) 1 (ev_name 2) ev_int (SqT.of (e05 _ _ htt)) rfl) (.inr (ht.mono e05).sq) rfl (flat_iV _)))) (by rw [in_iV, in_iV])) (fun i hi _ s0 H0 C cl fp => ev_name 14) fun ia H6 nia e6 hia => ?_))
    replace hia : H6 ia = some (.lst ((inner n fs ts).map iV)) := hia
    have e06 := e05.trans e6
    have hs6 := (e5.trans e6) _ _ hsa'
    have hget : ∀ {u : Nat}, u < n → ((List.range n).map fun u => V.int (- ot n F u))[u]? = some (.int (- ot n F u)) := fun {u} hu => by rw [List.getElem?_map, List.getElem?_range hu]; rfl
    have hil : (inner n fs ts).length ≤ 7 := Nat.le_trans inner_len hn7
    have hfil : (inner n fs ts).filter (fun v => !decide (V.int (- ot n F v) = V.int 0)) = [] := List.filter_eq_nil_iff.mpr fun v hv => by
      obtain ⟨h1, h2, h3⟩ := mem_inner.mp hv
      have hb := hflw.bal v h1 (by unfold inP; exact decide_eq_false h2) (by unfold inP; exact decide_eq_false h3)
      rw [hb]
      simp
    -- the test
    refine bw_cons (sw_ifF (tv_is (tv_bool (wv_or (k := false) (fun H7 e7 Q' q' => ?_) fun _ => wv_one_or (tv_is (tv_neNilL hu64 (ds := dI (((inner n fs ts).filter fun v => !decide (V.int (- ot n F v) = V.int 0)).map fun x : Nat => (x : Int))) (evl_compIf (l := inner n fs ts) (toV := iV) (g := iV) (pf := fun v => !decide (V.int (- ot n F v) = V.int 0)) (p := ia) [("_law_place", 14)] (ev_name 11) (.inl (.inl (.inl hia))) (by omega) (fun a => [some (.int (n : Int)), some (.ref cd), some (.ref tt), some (.ref fp), some (.int 55440), some (.ref sa), z6, z7, z8, z9, some (.ref pa), some (.ref ia), none, none, some (iV a)]) (fun a _ s0 H0 C cl fp => gv_name 14) (fun a => rfl) (fun a ha s0 H0 C cl fp => tv_ne (ev_ixLn (v := .int (- ot n F a)) a (ev_name 5) (ev_name 14) (.inl (.inl hs6)) (hget (mem_inner.mp ha).1)) ev_int) (fun a ha _ s0 H0 C cl fp => ev_name 14)) (fun H1 e1 => dp_iV _) (shL (okA_dI _) (Nat.le_trans (dep_dI _) (by decide)))) (by rw [hfil]; rfl)))) rfl) fun H7 e7 => bw_nil ?_)
    · -- len(set(pairs)) < len(pairs)
      have hall7 : AllR (fun (t : Rw) y H => PrR (min t.1 t.2.1, max t.1 t.2.1) y H) rows zs H7 := hall5.imp fun t y r => r.kt (Kt.of (e6.trans e7))
      obtain ⟨ks, hk1, hk2, hk3⟩ : ∃ ks : List (Addr × List Int), zs = ks.map (fun p => V.ref p.1) ∧ (∀ p ∈ ks, SqT K H7 p.1 (p.2.map V.int)) ∧ ks.map (·.2) = rows.map fun t => [((min t.1 t.2.1 : Nat) : Int), ((max t.1 t.2.1 : Nat) : Int)] := by
        have gen : ∀ {rows : List Rw} {zs : List V}, AllR (fun (t : Rw) y H => PrR (min t.1 t.2.1, max t.1 t.2.1) y H) rows zs H7 → ∃ ks : List (Addr × List Int), zs = ks.map (fun p => V.ref p.1) ∧ (∀ p ∈ ks, SqT K H7 p.1 (p.2.map V.int)) ∧ ks.map (·.2) = rows.map fun t => [((min t.1 t.2.1 : Nat) : Int), ((max t.1 t.2.1 : Nat) : Int)] := by
          intro rows
          induction rows with
          | nil =>
            intro zs h
            have : zs = [] := List.length_eq_zero_iff.mp h.1
            exact ⟨[], this, (fun p hp => nomatch hp), rfl⟩
          | cons t rows ih =>
            intro zs h
            cases zs with
            | nil => cases h.1
            | cons z zs =>
              obtain ⟨qz, rfl, hqz⟩ := h.2 0 t z rfl rfl
              obtain ⟨ks, h1, h2, h3⟩ := ih (zs := zs) ⟨Nat.succ.inj h.1, fun k a y h1 h2 => h.2 (k + 1) a y h1 h2⟩
              refine ⟨(qz, [((min t.1 t.2.1 : Nat) : Int), ((max t.1 t.2.1 : Nat) : Int)]) :: ks, by rw [List.map_cons, h1], fun p hp => ?_, by rw [List.map_cons, List.map_cons, h3]⟩
              rcases List.mem_cons.mp hp with rfl | hp
              · exact SqT.of hqz
              · exact h2 p hp
        exact gen hall7
      have hkl : ks.length = zs.length := by rw [hk1, List.length_map]
      have hknd : (ks.map (·.2)).Nodup := by
        rw [hk3]
        have h0 := List.pairwise_map.mp (hF.pairs hA)
        refine List.pairwise_map.mpr (h0.imp fun {a b} z e => z ?_)
        simp only [List.cons.injEq, and_true] at e
        exact Prod.ext (by show min a.1 a.2.1 = min b.1 b.2.1; omega) (by show max a.1 a.2.1 = max b.1 b.2.1; omega)
      have hp7 := (e6.trans e7) _ _ hpa
      refine tw_of (pt_cmpR op_lt pe_w pe_w (nomark _)) (ew_B cr_lenSetT T.b.b_len (aw_cons (ew_Ty (cr_setOfT rfl hu64) T.b.b_set (aw_cons (EVgo (ev_name 10) fun H8 e8 => aw_nil ⟨pa, ks, rfl, .inl (.inl (by rw [← hk1]; exact e8 _ _ hp7)), fun p hp => Evl.ex_t e8 (hk2 p hp), by omega, fun c L nc hL1 hL2 => aw_nil ⟨c, L, rfl, upd_same, fun p hp => Evl.ex_t (Ex.new nc) (Evl.ex_t e8 (hk2 p (hL1 p hp))), fun hLn => EVgo (ev_len T.b.b_len (ev_name 10) (.inl (.inl (.inl (Ex.new nc _ _ (e8 _ _ hp7)))))) fun H9 e9 => ⟨_, _, rfl, rfl, _, rfl, ?_⟩⟩⟩)))))
      have hLk : ks.length ≤ L.length := by
        have h1 := nat_len_sub hknd fun x hx => by
          obtain ⟨p, hp, rfl⟩ := List.mem_map.mp hx
          exact hL2 p hp
        rw [List.length_map, List.length_map] at h1
        exact h1
      rw [decide_eq_false (by omega)]
      exact q' H9 (e8.trans ((Ex.new nc).trans e9))
    · -- the worth
      have e07 := e06.trans e7
      have hsum : (fs.map fun u => - ot n F u).sum = - wor n (inP fs) F := by
        rw [sum_onS (pw_nd en.fnd) en.flt]
        unfold wor onS
        rw [← sm_neg]
        refine sm_congr fun i _ => ?_
        by_cases c : inP fs i = true
        · rw [if_pos c, if_pos c]
        · rw [if_neg c, if_neg c]
          rfl
      refine bw_cons (sw_set 12 (EVgo (ev_is (w := .int (wor n (inP fs) F)) (ev_sub ev_int (ev_sumL (ns := fs.map fun u => - ot n F u) T.b.b_sum (by
        rw [List.map_map]
        exact evl_comp (l := fs) (toV := iV) (g := fun u => V.int (- ot n F u)) (p := pf) [("_law_place", 14)] (ev_ixTn (v := .ref pf) 0 (ev_name 2) ev_int (SqT.of (e07 _ _ htt)) rfl) (.inr (hf.mono e07).sq) (Nat.le_trans (nodup_lt n fs (pw_nd en.fnd) en.flt) (by omega)) (fun a => [some (.int (n : Int)), some (.ref cd), some (.ref tt), some (.ref fp), some (.int 55440), some (.ref sa), z6, z7, z8, z9, some (.ref pa), some (.ref ia), none, none, some (iV a)]) (fun a _ s0 H0 C cl fp => gv_name 14) (fun a => rfl) (fun a ha s0 H0 C cl fp => ev_ixLn (v := .int (- ot n F a)) a (ev_name 5) (ev_name 14) (.inl (.inl (e7 _ _ hs6))) (hget (en.flt a ha)))))) (by rw [hsum]; congr 1; omega)) fun H8 e8 => ?_))
      generalize hwo : wor n (inP fs) F = wo at q
      refine bw_cons (sw_ifF (tv_is (tv_gt (ev_mod (ev_mul (ev_name 12) ev_int (cmulR (by decide))) (ev_name 4) (by decide)) ev_int) (decide_eq_false (by omega))) fun H9 e9 => bw_nil ?_)
      refine bw_one (sw_ret (EVgo (ev_is (w := .int wo) (ev_fdiv (ev_mul (ev_name 12) ev_int (cmulR (by decide))) (ev_name 4) ⟨by decide, by decide⟩) (by congr 1; omega)) fun Ha ea => q Ha ((e07.trans e8).trans (e9.trans ea))))
end
end Cut


namespace Cut
open PySem PySem.Spec PyProof.Rows L2 Evl
/-! ### the greatest flows, the law -/
theorem lt_ext : ∀ {l k : List Nat}, l.Pairwise (· < ·) → k.Pairwise (· < ·) → (∀ v, v ∈ l ↔ v ∈ k) → l = k
  | [], [], _, _, _ => rfl
  | [], b :: k, _, _, h => absurd ((h b).mpr List.mem_cons_self) (by simp)
  | a :: l, [], _, _, h => absurd ((h a).mp List.mem_cons_self) (by simp)
  | a :: l, b :: k, h1, h2, h => by
    have p1 := List.pairwise_cons.mp h1
    have p2 := List.pairwise_cons.mp h2
    have e : a = b := by
      rcases List.mem_cons.mp ((h a).mp List.mem_cons_self) with e | ha
      · exact e
      · rcases List.mem_cons.mp ((h b).mpr List.mem_cons_self) with e | hb
        · exact e.symm
        · have := p1.1 b hb
          have := p2.1 a ha
          omega
    subst e
    rw [lt_ext p1.2 p2.2 fun v => ?_]
    constructor
    · intro hv
      rcases List.mem_cons.mp ((h v).mp (List.mem_cons_of_mem _ hv)) with e | hk
      · have := p1.1 v hv
        omega
      · exact hk
    · intro hv
      rcases List.mem_cons.mp ((h v).mpr (List.mem_cons_of_mem _ hv)) with e | hk
      · have := p2.1 v hv
        omega
      · exact hk
section
variable {n : Nat} {W F : Mx} {fs ts : List Nat}
theorem Gst.loose (w : Wok W) (g : Gst n W (inP fs) (inP ts) F) : Loose n fs ts F := ⟨g.flw.anti, fun v hv h1 h2 => g.flw.bal v hv (decide_eq_false h1) (decide_eq_false h2), g.worn w⟩
theorem negM_ot (v : Nat) : ot n (negM F) v = - ot n F v := sm_neg (F v) n
/-- turned round -/
theorem Loose.turn (h : Loose n fs ts F) (en : EndsOk n fs ts) : Loose n ts fs (negM F) := by
  refine ⟨negM_anti h.anti, fun v hv h1 h2 => ?_, ?_⟩
  · rw [negM_ot, h.bal v hv h2 h1]
    rfl
  · have h0 : onS n (fun _ => true) (ot n F) = 0 := by
      rw [out_acr _ h.anti]
      unfold acr
      rw [show (sm n fun i => sm n fun j => if ((fun _ => true : Pl) i && !(fun _ => true : Pl) j) = true then F i j else 0) = sm n fun _ => 0 from sm_congr fun i _ => by
        rw [show (sm n fun j => if ((fun _ => true : Pl) i && !(fun _ => true : Pl) j) = true then F i j else 0) = sm n fun _ => 0 from sm_congr fun j _ => rfl]
        exact sm_zero n]
      exact sm_zero n
    have h1 : onS n (fun _ => true) (ot n F) = onS n (inP fs) (ot n F) + onS n (inP ts) (ot n F) := by
      unfold onS
      rw [← sm_add]
      refine sm_congr fun v hv => ?_
      show ot n F v = _
      by_cases c1 : v ∈ fs
      · have c2 : v ∉ ts := en.dis v c1
        rw [if_pos (inP_iff.mpr c1), if_neg (fun z => c2 (inP_iff.mp z))]
        omega
      · rw [if_neg (fun z => c1 (inP_iff.mp z))]
        by_cases c2 : v ∈ ts
        · rw [if_pos (inP_iff.mpr c2)]
          omega
        · rw [if_neg (fun z => c2 (inP_iff.mp z)), h.bal v hv c1 c2]
          rfl
    have h2 : Cut.wor n (inP ts) (negM F) = - onS n (inP ts) (ot n F) := by
      unfold Cut.wor onS
      rw [← sm_neg]
      refine sm_congr fun v hv => ?_
      rw [negM_ot]
      by_cases c : inP ts v = true
      · rw [if_pos c, if_pos c]
      · rw [if_neg c, if_neg c]
        rfl
    have h3 : Cut.wor n (inP fs) F = onS n (inP fs) (ot n F) := rfl
    have h4 := h.wor
    omega
theorem EndsOk.turn (en : EndsOk n fs ts) : EndsOk n ts fs := ⟨en.tnd, en.fnd, en.tlt, en.flt, fun x h1 h2 => en.dis x h2 h1, en.tne, en.fne⟩
end
section
variable {X : Cx} {σ : L2.St} {H : Hp} {pos p2 : Pos} {a b o e : Expr} {Q : VK}
theorem tw_neI {Q : Bool → Hp → Prop} (h : EW X a σ H fun x H1 => ∃ i : Int, x = .int i ∧ EW X b σ H1 fun y H2 => ∃ j : Int, y = .int j ∧ Q (!decide (i = j)) H2) : TW X (.Compare a [.NotEq] [b] pos) σ H Q :=
  tw_of (pt_cmpR op_ne pe_w pe_w (nomark _)) (EW.mono h fun x H1 ⟨i, e1, h⟩ => EW.mono h fun y H2 ⟨j, e2, q⟩ => by
    subst e1 e2
    refine ⟨rfl, _, rfl, ?_⟩
    rw [show decide (V.int i = V.int j) = decide (i = j) by simp]
    exact q)
theorem ew_uptoW {k : Nat} (h : EW X o σ H fun x H1 => ∃ l xs, x = .ref l ∧ SqL X.K H1 l xs ∧ k ≤ xs.length ∧ EV X e σ H1 (.int (k : Int)) ∧ ∀ p H2, Ex H1 H2 → H1 p = none → H2 p = some (.lst (xs.take k)) → Q (.ref p) H2) : EW X (.Subscript o (.Slice none (some e) none p2) pos) σ H Q :=
  ew_of (pe_slice sl_list pe_w po_none (po_some pe_w)) (EW.mono h fun x H1 ⟨l, xs, e1, hl, hk, he, q⟩ => EVgo (te := EW X e) he fun H2 e2 => ⟨_, rfl, l, xs, e1, Evl.ex_l e2 hl, fun p np => q p _ (e2.trans (Ex.new np)) (Evl.fresh_back e2 np) (by
    rw [upd_same]
    unfold cutV
    rw [HT.sIx_none, HT.sIx_nat, Nat.min_eq_left hk, Nat.sub_zero, List.drop_zero])⟩)
end
/-- all that the law's loop keeps -/
structure LInv (K : PySem.W.Frag) (H : Hp) (da td t : Addr) (y : V) (n : Nat) (W : Mx) (fs ts : List Nat) (rows : List Rw) (F : Mx) : Prop where
  dr : DrAt H da
  td : TdAt K H td n W
  ob : ∃ pf pt, H t = some (.tup [.ref pf, .ref pt]) ∧ H pf = some (.tup (fs.map iV)) ∧ H pt = some (.tup (ts.map iV))
  en : EndsOk n fs ts
  fl : FlAt K H y rows
  fr : FlRows n F rows
  lo : Loose n fs ts F
section
variable {K : PySem.W.Frag} {H H' : Hp} {da td t : Addr} {y : V} {n : Nat} {W : Mx} {fs ts : List Nat} {rows : List Rw} {F : Mx}
theorem LInv.kn (h : LInv K H da td t y n W fs ts rows F) (k : Kn H H') (d : DrAt H' da) : LInv K H' da td t y n W fs ts rows F := by
  obtain ⟨h1, h2, ⟨pf, pt, a1, a2, a3⟩, h4, h5, h6, h7⟩ := h
  exact ⟨d, h2.kn k, ⟨pf, pt, k.kt _ _ a1, k.kt _ _ a2, k.kt _ _ a3⟩, h4, h5.kt k.kt, h6, h7⟩
theorem LInv.mono (h : LInv K H da td t y n W fs ts rows F) (e : Ex H H') : LInv K H' da td t y n W fs ts rows F := h.kn (Kn.of e) (h.dr.mono e)
theorem LInv.km (h : LInv K H da td t y n W fs ts rows F) (k : Km [da] H H') (d : DrAt H' da) : LInv K H' da td t y n W fs ts rows F := h.kn (Kn.km k h.dr) d
end
section
variable {P : Program} {w : World} {K : PySem.W.Frag} {mg : Str → Option Value} {base : Heap} {CR CW CN CH : Addr}
def spIsG (K : PySem.W.Frag) (CW : Addr) : Sp := spV fun vs H v => ∃ (wb td t : Addr) (y : V), vs = [.ref wb, .ref td, .ref t, y] ∧ ∃ pf pt n W fs ts rows F, WFT K CW H wb pf pt n W fs ts ∧ TdAt K H td n W ∧ H t = some (.tup [.ref pf, .ref pt]) ∧ FlAt K H y rows ∧ FlRows n F rows ∧ Gst n W (inP fs) (inP ts) F ∧ v = .bl true
/-! _law_is_greatest: slots 0 _law_web_here, 1 _law_ties, 2 _law_ends_here, 3 _law_flow, 4 _law_counted, 5 _law_froms, 6 _law_tos, 7 _law_other -/
theorem sc_law_is_greatest : FnScope ["_law_web_here", "_law_ties", "_law_ends_here", "_law_flow", "_law_counted", "_law_froms", "_law_tos", "_law_other"] ["_law_web_here", "_law_ties", "_law_ends_here", "_law_flow"] (defScope s_law_is_greatest) := ⟨rfl, rfl, rfl, by decide +kernel, rfl, by decide +kernel, by decide +kernel⟩
theorem ok_law_is_greatest (T : Tops K mg CR CW CN CH) (hpt : Has P w K mg base 1 "_law_parts" ["_law_ties"] (spPts K)) (hwo : Has P w K mg base 2 "_law_worth" ["_law_many", "_law_counted", "_law_ends_here", "_law_flow"] (spWorth K)) (hls : Has P w K mg base 2 "_law_least_sides" ["_law_many", "_law_counted", "_law_ends_here"] (spLeast_ K)) (hsh : Has P w K mg base 5 "shortest_flow" ["web", "froms", "tos"] (spGst2 K CW)) (hne : Has P w K mg base 9 "near_side" ["web", "froms", "tos", "flow"] (spNear K CW)) (hfa : Has P w K mg base 9 "far_side" ["web", "froms", "tos", "flow"] (spFar K CW)) : Has P w K mg base 10 "_law_is_greatest" ["_law_web_here", "_law_ties", "_law_ends_here", "_law_flow"] (spIsG K CW) := by
  refine has_of (k := 9) T.law_is_greatest sc_law_is_greatest (fun _ _ _ _ _ _ us hl => match us, hl with | [_, _, _, _], _ => rfl) (fun vs H Q E h => by
    obtain ⟨_, ⟨wb, td, t, y, rfl, _⟩, _⟩ := h
    rfl) ?_
  intro f cdv A outer s H0 H vs Q E E0 hr h
  obtain ⟨v, ⟨wb, td, t, y, rfl, pf, pt, n, W, fs, ts, rows, F, h0, htd, ht, hfl, hF, hg, rfl⟩, q⟩ := h
  have nd := (sc_law_is_greatest).nd
  have hu64 : (CxD P w K mg base ["_law_web_here", "_law_ties", "_law_ends_here", "_law_flow", "_law_counted", "_law_froms", "_law_tos", "_law_other"] "_law_is_greatest" s_law_is_greatest f cdv A outer s H0 E0).A.units + 64 < cLine := hr.units
  have hle := h0.web.le
  obtain ⟨⟨dw, ww, tp, kw, gw, yw, rw0, ob, _⟩, _, _⟩ := id h0.web
  refine bw_cons (sw_set 4 (ew_call hpt hr (AVgo (av_cons (ev_name 1) av_nil) fun H1 e1 => ⟨td, rfl, n, W, hle.2, htd.kn (Kn.of e1), fun fd H2 e2 _ hdn => ?_⟩)))
  have e02 := e1.trans e2
  refine bw_cons (sw_asg (EVgo (ev_name 2) fun H3 e3 => gw_tup (n := 2) (SqT.of (e3 _ _ (e02 _ _ ht))) (gws_cons (gw_name 5 (gws_cons (gw_name 6 (gws_nil ?_)))))))
  have e03 := e02.trans e3
  have fm : ∀ {H' : Hp}, Ex H H' → Fl K H' wb "many" (.int (n : Int)) := fun e => (wb_fl T (e _ _ ob)).1
  refine bw_cons (sw_if (tw_neI (EVgo (ev_call hwo hr (av_cons (ev_fld (ev_name 0) (fm e03)) (av_cons (ev_name 4) (av_cons (ev_name 2) (av_cons (ev_name 3) av_nil)))) (fun H4 e4 => ⟨n, fd, t, y, rfl, pf, pt, fs, ts, W, rows, F, hle.2, hdn.mono (e3.trans e4), (e03.trans e4) _ _ ht, h0.f.mono (e03.trans e4), h0.t.mono (e03.trans e4), h0.ends, hfl.kt (Kt.of (e03.trans e4)), hF, hg.flw, rfl⟩)) fun H4 e4 => ⟨_, rfl, ew_ixTI (ew_call hls hr (AVgo (av_cons (ev_fld (ev_name 0) (fm (e03.trans e4))) (av_cons (ev_name 4) (av_cons (ev_name 2) av_nil))) fun H5 e5 => ⟨n, fd, t, rfl, pf, pt, fs, ts, W, hle.2, hdn.mono (e3.trans (e4.trans e5)), (e03.trans (e4.trans e5)) _ _ ht, h0.f.mono (e03.trans (e4.trans e5)), h0.t.mono (e03.trans (e4.trans e5)), h0.ends, fun p m u H6 e6 hp hex hmin => ⟨p, rfl, EVgo ev_int fun H7 e7 => ⟨[.int m, u], 0, .int m, rfl, SqT.of (e7 _ _ hp), rfl, m, rfl, ?_⟩⟩⟩))⟩)))
  have hm : wor n (inP fs) F = m := by
    obtain ⟨⟨S, hS1, hS2⟩, hall⟩ := hg.least
    obtain ⟨A', hA1, hA2⟩ := hex
    have h1 := hmin S hS1
    have h2 := hall A' hA1
    omega
  rw [hm, decide_eq_true rfl]
  have e07 := e03.trans ((e4.trans e5).trans (e6.trans e7))
  refine bw_nil ?_
  refine bw_cons (sw_set 7 (ew_ixTI (ew_call hsh hr (AVgo (av_cons (ev_name 0) (av_cons (ev_name 5) (av_cons (ev_name 6) av_nil))) fun H8 e8 => ⟨wb, pf, pt, rfl, n, W, fs, ts, h0.mono (e07.trans e8), fun p2 y2 k2 rows2 G H9 e9 hp2 hfl2 hF2 hg2 => ⟨p2, rfl, EVgo ev_int fun Ha ea => ⟨[y2, .int k2], 0, y2, rfl, SqT.of (ea _ _ hp2), rfl, ?_⟩⟩⟩))))
  have e0a := e07.trans ((e8.trans e9).trans ea)
  have hfl2a := hfl2.kt (Kt.of ea)
  refine bw_cons (sw_if (tw_neD hu64 (ew_call hne hr (AVgo (av_cons (ev_name 0) (av_cons (ev_name 5) (av_cons (ev_name 6) (av_cons (ev_name 3) av_nil)))) fun Hb eb => ⟨wb, pf, pt, y, rfl, n, W, fs, ts, rows, F, h0.mono (e0a.trans eb), hfl.kt (Kt.of (e0a.trans eb)), hF, hg, fun t1 l1 Hc ec ht1 hl1 hm1 => ew_call hne hr (AVgo (av_cons (ev_name 0) (av_cons (ev_name 5) (av_cons (ev_name 6) (av_cons (ev_name 7) av_nil)))) fun Hd ed => ⟨wb, pf, pt, y2, rfl, n, W, fs, ts, rows2, G, h0.mono (e0a.trans ((eb.trans ec).trans ed)), hfl2a.kt (Kt.of ((eb.trans ec).trans ed)), hF2, hg2, fun t2 l2 He ee ht2 hl2 hm2 => ⟨.tuple (dI (l1.map fun x : Nat => (x : Int))), .tuple (dI (l2.map fun x : Nat => (x : Int))), .tup (SqT.of ((ed.trans ee) _ _ ht1)) (dp_iV _), .tup (SqT.of ht2) (dp_iV _), shT (okA_dI _) (Nat.le_trans (dep_dI _) (by decide)), shT (okA_dI _) (Nat.le_trans (dep_dI _) (by decide)), ?_⟩⟩)⟩))))
  have el : l1 = l2 := lt_ext hl1 hl2 fun v => by
    rw [hm1, hm2]
    exact ⟨fun r => hg2.reach hg r, fun r => hg.reach hg2 r⟩
  subst el
  rw [(eqv_tup (okA_dI _) (okA_dI _)).mpr rfl]
  refine bw_nil ?_
  have e0e := e0a.trans ((eb.trans ec).trans (ed.trans ee))
  have hfl2e := hfl2a.kt (Kt.of ((eb.trans ec).trans (ed.trans ee)))
  refine bw_one (sw_ret (ew_of (pe_cmpR (op_eqD hu64) pe_w pe_w (nomark _)) (ew_call hfa hr (AVgo (av_cons (ev_name 0) (av_cons (ev_name 5) (av_cons (ev_name 6) (av_cons (ev_name 3) av_nil)))) fun Hf ef => ⟨wb, pf, pt, y, rfl, n, W, fs, ts, rows, F, h0.mono (e0e.trans ef), hfl.kt (Kt.of (e0e.trans ef)), hF, hg, fun t3 l3 Hg eg ht3 hl3 hm3 => ew_call hfa hr (AVgo (av_cons (ev_name 0) (av_cons (ev_name 5) (av_cons (ev_name 6) (av_cons (ev_name 7) av_nil)))) fun Hh eh => ⟨wb, pf, pt, y2, rfl, n, W, fs, ts, rows2, G, h0.mono (e0e.trans ((ef.trans eg).trans eh)), hfl2e.kt (Kt.of ((ef.trans eg).trans eh)), hF2, hg2, fun t4 l4 Hi ei ht4 hl4 hm4 => ⟨.tuple (dI (l3.map fun x : Nat => (x : Int))), .tuple (dI (l4.map fun x : Nat => (x : Int))), .tup (SqT.of ((eh.trans ei) _ _ ht3)) (dp_iV _), .tup (SqT.of ht4) (dp_iV _), shT (okA_dI _) (Nat.le_trans (dep_dI _) (by decide)), shT (okA_dI _) (Nat.le_trans (dep_dI _) (by decide)), ?_⟩⟩)⟩))))
  have el : l3 = l4 := lt_ext hl3 hl4 fun v => by
    rw [hm3, hm4]
    exact ⟨fun ⟨a, r⟩ => ⟨a, fun z => r (hg.reachB hg2 z)⟩, fun ⟨a, r⟩ => ⟨a, fun z => r (hg2.reachB hg z)⟩⟩
  subst el
  rw [(eqv_tup (okA_dI _) (okA_dI _)).mpr rfl]
  exact q Hi (e0e.trans ((ef.trans eg).trans (eh.trans ei)))
/-- a new web -/
theorem ew_web {X : Cx} {σ : L2.St} {H : Hp} {pos p : Pos} {e : Expr} {es : List Expr} {k j : Nat} {Q : VK} (hi : HasC X.prog X.w X.K X.mg X.base CW k "Web" ["self", "many", "ties"] (spWebInit X.K CW)) (hr : Room j X.A)
    (q : AW X (e :: es) σ H fun vs H1 => ∃ (n : Nat) (W : Mx) (y : V) (rs : List RwA), vs = [.int (n : Int), y] ∧ TiS X.K H1 y rs ∧ TieX n W (rs.map Prod.fst) ∧ ∀ wb H2, Ex H1 H2 → WbAt X.K CW H2 wb n W → Q (.ref wb) H2) (hk : k + 1 ≤ j := by decide) (hg : Gl X "Web" := by rfl)
    (he : starEach (e :: es) X.env = (false, eval e X.env) :: starEach es X.env := by rfl) (hpl : (backTo pos (starEach es X.env)).any (·.1) = false := by rfl) : EW X (.Call (.Name "Web" p) (e :: es) [] pos) σ H Q :=
  ew_make hi hr (fun pos2 pins s I => thn (q pos2 pins s I) fun us s' ⟨vs, H1, I1, r, n, W, y, rs, ev, hT, hX, q1⟩ => ⟨vs, H1, I1, r, fun wb dx hwb hdx hne => by
    have e2 : Ex H1 (L2.upd (L2.upd H1 dx (.own wb)) wb (.ins CW dx [])) := (Ex.new hdx).trans (Ex.new (by rw [upd_ne (Ne.symm hne)]; exact hwb))
    refine ⟨wb, .int (n : Int), y, by rw [ev], n, W, rs, dx, rfl, upd_same, hT.mono e2, hX, fun H2 hW k2 => ⟨rfl, q1 wb H2 ?_ hW⟩⟩
    exact Km.nil ((Km.of (M := []) e2).drop k2 (by simp [hwb]))⟩) hk hg (by decide) he hpl
end
end Cut


namespace Cut
open PySem PySem.Spec PyProof.Rows L2 Evl
section
variable {P : Program} {w : World} {K : PySem.W.Frag} {mg : Str → Option Value} {base : Heap} {CR CW CN CH : Addr}
/-! ### the law -/
def spLawT (K : PySem.W.Frag) : Sp := fun vs H Q _ => ∃ (p : Addr) (ns : List Int), vs = [.ref p] ∧ SqL K H p (ns.map V.int) ∧ ∀ H', Q (.bl true) H'
theorem two_of {os : List Nat} {n : Nat} (h : os.Perm (List.range n)) (h3 : 3 ≤ n) : ∃ a b r, os = a :: b :: r ∧ a < n ∧ b < n ∧ a ≠ b := by
  have hl := h.length_eq
  rw [List.length_range] at hl
  match os, hl, h with
  | [], hl, _ => rw [List.length_nil] at hl; omega
  | [a], hl, _ => rw [List.length_singleton] at hl; omega
  | a :: b :: r, _, h =>
    have hnd : (a :: b :: r).Nodup := h.nodup_iff.mpr List.nodup_range
    refine ⟨a, b, r, rfl, List.mem_range.mp (h.mem_iff.mp (by simp)), List.mem_range.mp (h.mem_iff.mp (by simp)), fun e => ?_⟩
    rw [List.nodup_cons] at hnd
    exact hnd.1 (by rw [e]; simp)
/-! law: slots 0 _law_script, 1 _law_draws_here, 2 _law_many, 3 _law_ties, 4 _law_ends_here, 5 _law_flow, 6 _law_turn, 7 _law_change, 8 _law_i, 9 _law_j, 10 _law_weight_here, 11 _law_web_here, 12 _law_rest, 13 _law_worth_here -/
theorem sc_law : FnScope ["_law_script", "_law_draws_here", "_law_many", "_law_ties", "_law_ends_here", "_law_flow", "_law_turn", "_law_change", "_law_i", "_law_j", "_law_weight_here", "_law_web_here", "_law_rest", "_law_worth_here"] ["_law_script"] (defScope s_law) := ⟨rfl, rfl, rfl, by decide +kernel, rfl, by decide +kernel, by decide +kernel⟩
theorem ok_law (T : Tops K mg CR CW CN CH) (hdr : Has P w K mg base 2 "_law_draws" ["_law_script", "_law_at", "_law_many"] (spDraws K)) (hn : Has P w K mg base 1 "_law_next" ["_law_draws_here"] spNext) (hwb : Has P w K mg base 3 "_law_web" ["_law_draws_here", "_law_least", "_law_most"] (spWeb K)) (hen : Has P w K mg base 3 "_law_ends" ["_law_draws_here", "_law_many"] (spEndsL K)) (ho : Has P w K mg base 2 "_law_order" ["_law_draws_here", "_law_many"] spOrder)
    (hnw : Has P w K mg base 2 "_law_new_weight" ["_law_draws_here", "_law_ties", "_law_i", "_law_j"] (spNewW K)) (hch : Has P w K mg base 1 "_law_changed" ["_law_ties", "_law_i", "_law_j", "_law_weight_here"] (spChg K)) (htu : Has P w K mg base 1 "_law_turned" ["_law_flow"] (spTurned K)) (hro : Has P w K mg base 2 "_law_rows" ["_law_draws_here", "_law_ties"] (spRows K)) (hW : HasC P w K mg base CW 6 "Web" ["self", "many", "ties"] (spWebInit K CW))
    (hle : Has P w K mg base 7 "led_flow" ["web", "froms", "tos", "flow"] (spLed K CW)) (hig : Has P w K mg base 10 "_law_is_greatest" ["_law_web_here", "_law_ties", "_law_ends_here", "_law_flow"] (spIsG K CW)) (hha : Has P w K mg base 5 "halved_flow" ["web", "froms", "tos"] (spGst2 K CW)) (hpu : Has P w K mg base 5 "pushed_flow" ["web", "froms", "tos"] (spGst1 K CW))
    (hpt : Has P w K mg base 1 "_law_parts" ["_law_ties"] (spPts K)) (hwo : Has P w K mg base 2 "_law_worth" ["_law_many", "_law_counted", "_law_ends_here", "_law_flow"] (spWorth K)) : BodyOk P w K mg base ["_law_script", "_law_draws_here", "_law_many", "_law_ties", "_law_ends_here", "_law_flow", "_law_turn", "_law_change", "_law_i", "_law_j", "_law_weight_here", "_law_web_here", "_law_rest", "_law_worth_here"] "law" s_law 10 (spLawT K) := by
  intro f cdv A outer s H0 H vs Q E E0 hr h
  obtain ⟨p, ns, rfl, hs, q⟩ := h
  have nd := (sc_law).nd
  refine bw_cons (sw_set 1 (ew_call hdr hr (AVgo (av_cons (ev_name 0) (av_cons ev_int (av_cons ev_int av_nil))) fun H1 e1 => ⟨p, ns, rfl, Evl.ex_l e1 hs, fun da H2 e2 nda hda => ?_⟩)))
  refine bw_cons (sw_asg (ew_call hwb hr (AVgo (av_cons (ev_name 1) (av_cons ev_int (av_cons ev_int av_nil))) fun H3 e3 => ⟨da, rfl, hda.mono e3, fun t0 td n W H4 d4 k4 ht0 h3 h7 htd => gw_tup (n := 2) (SqT.of ht0) (gws_cons (gw_name 2 (gws_cons (gw_name 3 (gws_nil ?_)))))⟩)))
  refine bw_cons (sw_set 4 (ew_call hen hr (AVgo (av_cons (ev_name 1) (av_cons (ev_name 2) av_nil)) fun H5 e5 => ⟨da, n, rfl, d4.mono e5, ⟨h3, h7⟩, fun t pf pt fs ts H6 d6 k6 ht hpf hpt' hend => ?_⟩)))
  refine bw_cons (sw_set 5 (EUgo (evu_tup av_nil) fun fe H7 nfe e7 hfe => ?_))
  have L0 : LInv K H7 da td t (.ref fe) n W fs ts [] zeM := by
    refine ⟨d6.mono e7, ((htd.kn (Kn.of e5)).kn (Kn.km k6 (d4.mono e5))).kn (Kn.of e7), ⟨pf, pt, e7 _ _ ht, e7 _ _ hpf, e7 _ _ hpt'⟩, hend, ⟨fe, [], rfl, hfe, AllR.nil⟩, ze_rows n, ⟨zeM_anti, fun v _ _ _ => sm_zero n, ?_⟩⟩
    refine sm_nonneg fun i _ => ?_
    by_cases c : inP fs i = true
    · rw [if_pos c]
      exact Int.le_of_eq (sm_zero n).symm
    · rw [if_neg c]
      exact Int.le_refl _
  refine bw_cons (sw_forR1 PassesOwn.never T.b.b_range (n := 10) ev_int (by omega) (fun k σ' H' => ∃ (z6 z7 z8 z9 z10 z11 z12 z13 : Option V) (td t : Addr) (y : V) (W : Mx) (fs ts : List Nat) (rows : List Rw) (F : Mx), σ' = [some (.ref p), some (.ref da), some (.int (n : Int)), some (.ref td), some (.ref t), some y, z6, z7, z8, z9, z10, z11, z12, z13] ∧ LInv K H' da td t y n W fs ts rows F) (fun H8 e8 => ⟨none, none, none, none, none, none, none, none, td, t, _, W, fs, ts, [], zeM, rfl, L0.mono e8⟩) ?_ ?_)
  · clear L0 hfe hend ht hpf hpt' d6 k6 htd d4 k4 ht0
    rintro turn σ' H' hturn ⟨z6, z7, z8, z9, z10, z11, z12, z13, td, t, y, W, fs, ts, rows, F, rfl, L⟩
    refine gw_name 6 ?_
    refine bw_cons (sw_forRW PassesOwn.never T.b.b_range (ew_addI (EVgo ev_int fun Ha ea => ⟨1, rfl, ew_modI (ew_next hn hr (ev_name 1) (L.dr.mono ea) fun v Hb db kb => ⟨_, rfl, EVgo ev_int fun Hc ec => ⟨3, rfl, by decide, _, rfl, 1 + v % 3, rfl, by omega, fun k σ2 H2 => ∃ (z7 z8 z9 z10 : Option V) (td : Addr) (W : Mx), σ2 = [some (.ref p), some (.ref da), some (.int (n : Int)), some (.ref td), some (.ref t), some y, some (iV turn), z7, z8, z9, z10, z11, z12, z13] ∧ LInv K H2 da td t y n W fs ts rows F, ⟨z7, z8, z9, z10, td, W, rfl, ((L.mono ea).km kb db).mono ec⟩, ?_, ?_⟩⟩)⟩)))
    · clear L
      rintro k σ2 H2 hk ⟨z7, z8, z9, z10, td, W, rfl, L⟩
      refine gw_name 7 ?_
      refine bw_cons (sw_asg ?_)
      refine ew_uptoW (k := 2) ?_
      refine ew_call ho hr (AVgo (av_cons (ev_name 1) (av_cons (ev_name 2) av_nil)) fun Hd ed => ⟨da, n, rfl, L.dr.mono ed, h7, fun oa os He de ke noa hoa hperm => ⟨oa, os.map iV, rfl, .inl (.inl hoa), ?_, ev_is (w := .int ((2 : Nat) : Int)) ev_int rfl, fun pa Hf ef npa hpa => ?_⟩⟩)
      · have := hperm.length_eq
        rw [List.length_range] at this
        rw [List.length_map]
        omega
      · obtain ⟨a, b, r, rfl, ha, hb, hab⟩ := two_of hperm h3
        replace hpa : Hf pa = some (.lst [iV a, iV b]) := hpa
        have L1 := ((L.mono ed).km ke de).mono ef
        refine gw_seq (n := 2) (.inl (.inl (.inl hpa))) (gws_cons (gw_name 8 (gws_cons (gw_name 9 (gws_nil ?_)))))
        refine bw_cons (sw_set 10 (ew_call hnw hr (AVgo (av_cons (ev_name 1) (av_cons (ev_name 3) (av_cons (ev_name 8) (av_cons (ev_name 9) av_nil)))) fun Hg eg => ⟨da, td, a, b, rfl, L1.dr.mono eg, n, W, h7, L1.td.kn (Kn.of eg), ha, hb, hab, fun wv Hh dh kh hw => ?_⟩)))
        have L2' := (L1.mono eg).km kh dh
        refine bw_one (sw_set 3 (ew_call hch hr (AVgo (av_cons (ev_name 3) (av_cons (ev_name 8) (av_cons (ev_name 9) (av_cons (ev_name 10) av_nil)))) fun Hi ei => ⟨td, a, b, wv, rfl, n, W, h7, L2'.td.kn (Kn.of ei), ha, hb, hab, hw.kt (Kt.of ei), fun td' W' Hj ej htd' => ?_⟩)))
        have L3 := L2'.mono (ei.trans ej)
        exact ⟨_, _, _, _, td', W', rfl, ⟨L3.dr, htd', L3.ob, L3.en, L3.fl, L3.fr, L3.lo⟩⟩
    · clear L
      rintro σ2 H2 ⟨z7, z8, z9, z10, td, W, rfl, L⟩
      refine bw_cut (fun σ3 H3 => ∃ (t : Addr) (y : V) (fs ts : List Nat) (rows : List Rw) (F : Mx), σ3 = [some (.ref p), some (.ref da), some (.int (n : Int)), some (.ref td), some (.ref t), some y, some (iV turn), z7, z8, z9, z10, z11, z12, z13] ∧ LInv K H3 da td t y n W fs ts rows F) (sw_if (tw_eqI (ew_modI (ew_next hn hr (ev_name 1) L.dr fun v Hd dd kd => ⟨_, rfl, EVgo ev_int fun He ee => ⟨5, rfl, by decide, _, rfl, EVgo ev_int fun Hf ef => ⟨1, rfl, ?_⟩⟩⟩)))) ?_
      · have L1 := ((L.km kd dd).mono ee).mono ef
        refine ite2 (fun _ => ?_) (fun _ => bw_nil ⟨t, y, fs, ts, rows, F, rfl, L1⟩)
        obtain ⟨pf, pt, ht, hpf, hpt'⟩ := L1.ob
        refine bw_cons (sw_set 4 (EUgo (evu_tup (av_cons (ev_ixTn (v := .ref pt) 1 (ev_name 4) ev_int (SqT.of ht) rfl) (av_cons (ev_ixTn (v := .ref pf) 0 (ev_name 4) ev_int (SqT.of ht) rfl) av_nil))) fun t2 Hg nt2 eg ht2 => ?_))
        refine bw_one (sw_set 5 (ew_call htu hr (AVgo (av_cons (ev_name 5) av_nil) fun Hh eh => ⟨y, rfl, n, rows, F, h7, L1.fl.kt (Kt.of (eg.trans eh)), L1.fr, L1.lo.anti, fun y2 rows2 Hi ei hfl2 hF2 => ?_⟩)))
        have L2' := L1.mono (eg.trans (eh.trans ei))
        exact ⟨t2, y2, ts, fs, rows2, negM F, rfl, ⟨L2'.dr, L2'.td, ⟨pt, pf, (eh.trans ei) _ _ ht2, (eg.trans (eh.trans ei)) _ _ hpt', (eg.trans (eh.trans ei)) _ _ hpf⟩, L2'.en.turn, hfl2, hF2, L2'.lo.turn L2'.en⟩⟩
      · clear L
        rintro σ3 H3 ⟨t, y, fs, ts, rows, F, rfl, L⟩
        refine bw_cons (sw_set 11 (ew_web hW hr (aw_cons (EVgo (ev_name 2) fun Ha ea => aw_cons (ew_call hro hr (AVgo (av_cons (ev_name 1) (av_cons (ev_name 3) av_nil)) fun Hb eb => ⟨da, td, rfl, L.dr.mono (ea.trans eb), n, W, ⟨by omega, h7⟩, L.td.kn (Kn.of (ea.trans eb)), fun v rs Hc dc kc hT hX => aw_nil ⟨n, W, v, rs, rfl, hT, hX, fun wb Hd ed hWb => ?_⟩⟩))))))
        have L1 := ((L.mono (ea.trans eb)).km kc dc).mono ed
        clear L
        obtain ⟨pf, pt, ht, hpf, hpt'⟩ := L1.ob
        have wft : WFT K CW Hd wb pf pt n W fs ts := ⟨hWb, .inl hpf, .inl hpt', L1.en⟩
        refine bw_cons (sw_set 5 (ew_call hle hr (AVgo (av_cons (ev_name 11) (av_cons (ev_ixTn (v := .ref pf) 0 (ev_name 4) ev_int (SqT.of ht) rfl) (av_cons (ev_ixTn (v := .ref pt) 1 (ev_name 4) ev_int (SqT.of ht) rfl) (av_cons (ev_name 5) av_nil)))) fun He ee => ⟨wb, pf, pt, y, rfl, n, W, fs, ts, rows, F, wft.mono ee, L1.fl.kt (Kt.of ee), L1.fr, L1.lo, fun y2 rows2 G Hf ef hfl2 hF2 hg2 => ?_⟩)))
        have x1 := ee.trans ef
        refine bw_cons (sw_ifF (tv_is (tv_not (tv_val (ev_call hig hr (av_cons (ev_name 11) (av_cons (ev_name 3) (av_cons (ev_name 4) (av_cons (ev_name 5) av_nil)))) (fun Hg eg => ⟨wb, td, t, y2, rfl, pf, pt, n, W, fs, ts, rows2, G, wft.mono (x1.trans eg), L1.td.kn (Kn.of (x1.trans eg)), (x1.trans eg) _ _ ht, hfl2.kt (Kt.of eg), hF2, hg2, rfl⟩)))) rfl) fun Hg eg => bw_nil ?_)
        have x2 := x1.trans eg
        have hfl2g := hfl2.kt (Kt.of eg)
        refine bw_cons (sw_set 12 (ew_lst (aw_cons (ew_ixTI (ew_call hha hr (AVgo (av_cons (ev_name 11) (av_cons (ev_ixTn (v := .ref pf) 0 (ev_name 4) ev_int (SqT.of (x2 _ _ ht)) rfl) (av_cons (ev_ixTn (v := .ref pt) 1 (ev_name 4) ev_int (SqT.of (x2 _ _ ht)) rfl) av_nil))) fun Hh eh => ⟨wb, pf, pt, rfl, n, W, fs, ts, wft.mono (x2.trans eh), fun p3 y3 k3 rows3 G3 Hi ei hp3 hfl3 hF3 hg3 => ⟨p3, rfl, EVgo ev_int fun Hj ej => ⟨[y3, .int k3], 0, y3, rfl, SqT.of (ej _ _ hp3), rfl, ?_⟩⟩⟩))))))
        have x3 := (eh.trans ei).trans ej
        refine aw_cons (ew_call hpu hr (AVgo (av_cons (ev_name 11) (av_cons (ev_ixTn (v := .ref pf) 0 (ev_name 4) ev_int (SqT.of ((x2.trans x3) _ _ ht)) rfl) (av_cons (ev_ixTn (v := .ref pt) 1 (ev_name 4) ev_int (SqT.of ((x2.trans x3) _ _ ht)) rfl) av_nil))) fun Hk ek => ⟨wb, pf, pt, rfl, n, W, fs, ts, wft.mono ((x2.trans x3).trans ek), fun y4 rows4 G4 Hl el hfl4 hF4 hg4 => aw_nil ⟨by show 2 ≤ sizeLine; decide, fun ra nra => ?_⟩⟩))
        have x4 : Ex Hj (upd Hl ra (.lst [y3, y4])) := (ek.trans el).trans (Ex.new nra)
        have hra : (upd Hl ra (.lst [y3, y4])) ra = some (.lst [y3, y4]) := upd_same
        have hfl3' := (hfl3.kt (Kt.of ej)).kt (Kt.of x4)
        have hfl4' := hfl4.kt (Kt.of (Ex.new nra (o := .lst [y3, y4])))
        generalize upd Hl ra (.lst [y3, y4]) = Hm at x4 hra hfl3' hfl4'
        have x5 := x2.trans (x3.trans x4)
        have hfl2m := hfl2g.kt (Kt.of (x3.trans x4))
        refine bw_cons (sw_set 13 (ew_call hwo hr (aw_cons (EVgo (ev_name 2) fun Hn en => aw_cons (ew_call hpt hr (AVgo (av_cons (ev_name 3) av_nil) fun Ho eo => ⟨td, rfl, n, W, h7, L1.td.kn (Kn.of (x5.trans (en.trans eo))), fun fd Hp ep _ hdn => aw_cons (EVgo (ev_name 4) fun Hq eq => aw_cons (EVgo (ev_name 5) fun Hr er => aw_nil ⟨.int (wor n (inP fs) G), ⟨n, fd, t, y2, rfl, pf, pt, fs, ts, W, rows2, G, h7, hdn.mono (eq.trans er), (x5.trans (((en.trans eo).trans ep).trans (eq.trans er))) _ _ ht, .inl ((x5.trans (((en.trans eo).trans ep).trans (eq.trans er))) _ _ hpf), .inl ((x5.trans (((en.trans eo).trans ep).trans (eq.trans er))) _ _ hpt'), L1.en, hfl2m.kt (Kt.of (((en.trans eo).trans ep).trans (eq.trans er))), hF2, hg2.flw, rfl⟩, fun Hs es => ?_⟩))⟩))))))
        have x6 := (((en.trans eo).trans ep).trans (eq.trans er)).trans es
        obtain ⟨vr, rowsr, Gr, hget, hflr, hFr, hgr⟩ : ∃ vr rowsr Gr, [y3, y4][turn % 2]? = some vr ∧ FlAt K Hs vr rowsr ∧ FlRows n Gr rowsr ∧ Gst n W (inP fs) (inP ts) Gr := by
          rcases Nat.mod_two_eq_zero_or_one turn with c | c
          · rw [c]
            exact ⟨y3, rows3, G3, rfl, hfl3'.kt (Kt.of x6), hF3, hg3⟩
          · rw [c]
            exact ⟨y4, rows4, G4, rfl, hfl4'.kt (Kt.of x6), hF4, hg4⟩
        have x7 := x5.trans x6
        refine bw_one (sw_if (tw_neI (ew_call hwo hr (aw_cons (EVgo (ev_name 2) fun Ht et => aw_cons (ew_call hpt hr (AVgo (av_cons (ev_name 3) av_nil) fun Hu eu => ⟨td, rfl, n, W, h7, L1.td.kn (Kn.of (x7.trans (et.trans eu))), fun fd Hv ev _ hdn => aw_cons (EVgo (ev_name 4) fun Hw ew => aw_cons (EVgo (ev_ixLn (v := vr) (turn % 2) (ev_name 12) (ev_mod (ev_name 6) ev_int (by decide)) (.inl (.inl ((x6.trans (((et.trans eu).trans ev).trans ew)) _ _ hra))) hget (by omega)) fun Hx ex => aw_nil ⟨.int (wor n (inP fs) Gr), ⟨n, fd, t, vr, rfl, pf, pt, fs, ts, W, rowsr, Gr, h7, hdn.mono (ew.trans ex), (x7.trans (((et.trans eu).trans ev).trans (ew.trans ex))) _ _ ht, .inl ((x7.trans (((et.trans eu).trans ev).trans (ew.trans ex))) _ _ hpf), .inl ((x7.trans (((et.trans eu).trans ev).trans (ew.trans ex))) _ _ hpt'), L1.en, hflr.kt (Kt.of (((et.trans eu).trans ev).trans (ew.trans ex))), hFr, hgr.flw, rfl⟩, fun Hy ey => ⟨_, rfl, EVgo (ev_name 13) fun Hz ez => ⟨_, rfl, ?_⟩⟩⟩))⟩)))))))
        rw [decide_eq_true (hgr.wor_eq hg2)]
        have x8 := x7.trans ((((et.trans eu).trans ev).trans (ew.trans ex)).trans (ey.trans ez))
        have L9 := L1.mono x8
        refine bw_nil ⟨_, _, _, _, _, _, _, _, td, t, y2, W, fs, ts, rows2, G, rfl, ⟨L9.dr, L9.td, L9.ob, L9.en, ?_, hF2, hg2.loose wft.web.ok⟩⟩
        exact hfl2m.kt (Kt.of (x6.trans ((((et.trans eu).trans ev).trans (ew.trans ex)).trans (ey.trans ez))))
  · rintro σ' H' _
    exact bw_one (sw_ret (EVgo ev_bl fun H9 e9 => q H9))
end
end Cut


namespace Cut
open PySem PySem.Spec PyProof.Rows L2 Evl
section
variable {P : Program} {w : World} {K : PySem.W.Frag} {mg : Str → Option Value} {base : Heap} {CR CW CN CH : Addr}
/-- all promises, one behind the other -/
theorem all_ok (T : Tops K mg CR CW CN CH) : BodyOk P w K mg base ["_law_script", "_law_draws_here", "_law_many", "_law_ties", "_law_ends_here", "_law_flow", "_law_turn", "_law_change", "_law_i", "_law_j", "_law_weight_here", "_law_web_here", "_law_rest", "_law_worth_here"] "law" s_law 10 (spLawT K) := by
  have h_is_whole : Has P w K mg base 1 "is_whole" ["thing", "least", "most"] spWhole := ok_is_whole T.b T.is_whole
  have h_is_row : Has P w K mg base 1 "is_row" ["thing"] (spRow K) := ok_is_row T.b T.is_row
  have h_divisor : Has P w K mg base 1 "divisor" ["one", "other"] spGcd := ok_divisor T.divisor
  have h_in_least_terms : Has P w K mg base 2 "in_least_terms" ["above", "below"] spLeast := ok_in_least_terms T.in_least_terms h_divisor
  have h_plus : Has P w K mg base 3 "plus" ["one", "other"] (spPlus K) := ok_plus T.plus h_in_least_terms
  have h_is_below : Has P w K mg base 1 "is_below" ["one", "other"] (spBelow K) := ok_is_below T.is_below
  have h_total : Has P w K mg base 4 "total" ["amounts"] (spTotal K) := ok_total T.b T.total h_plus
  have h_lowest : Has P w K mg base 2 "lowest" ["number"] (spLow K) := ok_lowest T.b T.lowest h_divisor
  have h_is_amount : Has P w K mg base 2 "is_amount" ["thing"] (spIsAm K) := ok_is_amount T.b T.is_amount h_divisor h_is_row
  have h_is_weight : Has P w K mg base 3 "is_weight" ["thing"] (spIsWt K) := ok_is_weight T.b T.is_weight h_is_amount
  have h_as_tuples0 : Has P w K mg base 2 "as_tuples" ["thing"] spAsT0 := ok_as_tuples0 T.b T.as_tuples h_is_row
  have h_as_tuples : Has P w K mg base 3 "as_tuples" ["thing"] (spAsT K) := ok_as_tuples T.b T.as_tuples h_is_row h_as_tuples0
  have h_Rooms_parts : HasM P w K mg base CR 1 "parts" ["self", "amount"] (spParts K) := ok_Rooms_parts T
  have h_Rooms_spare : HasM P w K mg base CR 1 "spare" ["self", "i", "j"] (spSpare CR) := ok_Rooms_spare T
  have h_Rooms_put : HasM P w K mg base CR 1 "put" ["self", "i", "j", "number"] (spPut CR) := ok_Rooms_put T
  have h_Rooms_carry : HasM P w K mg base CR 2 "carry" ["self", "way", "number"] (spCarry K CR) := ok_Rooms_carry T h_Rooms_put
  have h_Rooms_least_room : HasM P w K mg base CR 2 "least_room" ["self", "way"] (spLeastRoom K CR) := ok_Rooms_least_room T h_Rooms_spare
  have h_Rooms_flow : HasM P w K mg base CR 3 "flow" ["self"] (spFlow K CR) := ok_Rooms_flow T h_lowest
  have h_Rooms_meet : HasM P w K mg base CR 1 "meet" ["self", "i", "j"] (spMeet CR) := ok_Rooms_meet T
  have h_Rooms_init : HasC P w K mg base CR 2 "Rooms" ["self", "web"] (spRmInit K CR CW) := ok_Rooms_init T h_Rooms_parts h_Rooms_meet
  have h_rooms_of : Has P w K mg base 4 "rooms_of" ["web", "flow"] (spRoomsOf K CR CW) := ok_rooms_of T h_Rooms_init h_Rooms_parts h_Rooms_meet h_Rooms_put
  have h_reached : Has P w K mg base 2 "reached" ["rooms", "places"] (spReach K CR Rm) := ok_reached T h_Rooms_spare
  have h_leading : Has P w K mg base 2 "leading" ["rooms", "places"] (spReach K CR Rb) := ok_leading T h_Rooms_spare
  have h_steps_to : Has P w K mg base 2 "steps_to" ["rooms", "froms", "tos", "least"] (spSteps K CR) := ok_steps_to T h_Rooms_spare
  have h_way_with : Has P w K mg base 3 "way_with" ["rooms", "froms", "tos", "least"] (spWay K CR) := ok_way_with T h_steps_to h_Rooms_spare
  have h_filled : Has P w K mg base 4 "filled" ["rooms", "froms", "tos", "least"] (spFilled K CR) := ok_filled T h_way_with h_Rooms_carry h_Rooms_least_room
  have h_are_rising : Has P w K mg base 2 "are_rising" ["many", "thing"] (spRising K) := ok_are_rising T h_is_row h_is_whole
  have h_are_ends : Has P w K mg base 3 "are_ends" ["web", "froms", "tos"] (spEnds K CW) := ok_are_ends T h_are_rising
  have h_ask_ends : Has P w K mg base 4 "ask_ends" ["web", "froms", "tos"] (spAskEnds K CW) := ok_ask_ends T h_are_ends
  have h_is_flow_row : Has P w K mg base 3 "is_flow_row" ["many", "row"] (spFlowRow K) := ok_is_flow_row T h_is_row h_is_whole h_is_amount
  have h_are_flow_rows : Has P w K mg base 4 "are_flow_rows" ["many", "flow"] (spFlowRows K) := ok_are_flow_rows T h_is_row h_is_flow_row
  have h_going_out : Has P w K mg base 5 "going_out" ["flow", "places"] (spOut K) := ok_going_out T h_total
  have h_coming_in : Has P w K mg base 5 "coming_in" ["flow", "places"] (spIn K) := ok_coming_in T h_total
  have h_is_balanced : Has P w K mg base 6 "is_balanced" ["many", "froms", "tos", "flow"] (spBal K) := ok_is_balanced T h_going_out h_coming_in h_is_below
  have h_Web_tie : HasM P w K mg base CW 1 "tie" ["self", "i", "j"] (spTie K CW mg) := ok_Web_tie T
  have h_fits : Has P w K mg base 2 "fits" ["web", "flow"] (spFits K CW) := ok_fits T h_Web_tie h_is_below
  have h_is_flow : Has P w K mg base 7 "is_flow" ["web", "froms", "tos", "flow"] (spIsFlow K CW) := ok_is_flow T h_ask_ends h_are_flow_rows h_fits h_is_balanced
  have h_are_places : Has P w K mg base 2 "are_places" ["many", "i", "j"] spPlaces := ok_are_places T h_is_whole
  have h_is_tie : Has P w K mg base 4 "is_tie" ["many", "thing"] (spIsTie K) := ok_is_tie T h_is_row h_are_places h_is_weight
  have h_wrong_tie : Has P w K mg base 5 "wrong_tie" ["many", "ties"] (spWrong K) := ok_wrong_tie T h_is_row h_is_tie
  have h_weights_in : Has P w K mg base 4 "weights_in" ["ties"] (spWeightsIn K) := ok_weights_in T h_as_tuples
  have h_put_weights : Has P w K mg base 1 "put_weights" ["web", "weights"] (spPutW K CW) := ok_put_weights T
  have h_Web_init : HasC P w K mg base CW 6 "Web" ["self", "many", "ties"] (spWebInit K CW) := ok_Web_init T h_is_whole h_wrong_tie h_weights_in h_put_weights
  have h_shortest_flow : Has P w K mg base 5 "shortest_flow" ["web", "froms", "tos"] (spGst2 K CW) := ok_shortest_flow T h_are_ends h_rooms_of h_filled h_Rooms_flow
  have h_first_bound : Has P w K mg base 1 "first_bound" ["rooms"] (spBound CR) := ok_first_bound T
  have h_halved_flow : Has P w K mg base 5 "halved_flow" ["web", "froms", "tos"] (spGst2 K CW) := ok_halved_flow T h_are_ends h_Rooms_init h_first_bound h_filled h_Rooms_flow
  have h_rooms_left : Has P w K mg base 8 "rooms_left" ["web", "froms", "tos", "flow"] (spLeft K CR CW) := ok_rooms_left T h_are_ends h_is_flow h_rooms_of h_reached
  have h_near_side : Has P w K mg base 9 "near_side" ["web", "froms", "tos", "flow"] (spNear K CW) := ok_near_side T h_rooms_left h_reached
  have h_far_side : Has P w K mg base 9 "far_side" ["web", "froms", "tos", "flow"] (spFar K CW) := ok_far_side T h_rooms_left h_leading
  have h_Heights_push : HasM P w K mg base CH 2 "push" ["self", "place", "other", "number"] (spPush CR CH) := ok_Heights_push T h_Rooms_put
  have h_Heights_lift : HasM P w K mg base CH 2 "lift" ["self", "place"] (spLift CR CH) := ok_Heights_lift T h_Rooms_spare
  have h_Heights_clear : HasM P w K mg base CH 3 "clear" ["self", "place"] (spClear CR CH) := ok_Heights_clear T h_Rooms_spare h_Heights_push h_Heights_lift
  have h_Heights_waiting : HasM P w K mg base CH 1 "waiting" ["self"] (spWaiting CR CH) := ok_Heights_waiting T
  have h_Heights_init : HasC P w K mg base CH 3 "Heights" ["self", "rooms", "froms", "tos"] (spHgInit K CR CH) := ok_Heights_init T h_Rooms_spare h_Heights_push
  have h_pushed_flow : Has P w K mg base 5 "pushed_flow" ["web", "froms", "tos"] (spGst1 K CW) := ok_pushed_flow T h_are_ends h_rooms_of h_Heights_init h_Heights_waiting h_Heights_clear h_Rooms_flow
  have h_Nets_surplus : HasM P w K mg base CN 1 "surplus" ["self", "place"] (spSur CR CN) := ok_Nets_surplus T
  have h_Nets_row_at : HasM P w K mg base CN 1 "row_at" ["self", "place", "is_back"] (spRowAt CR CN) := ok_Nets_row_at T
  have h_Nets_init : HasC P w K mg base CN 4 "Nets" ["self", "web", "froms", "tos", "flow"] (spNtInit K CR CW CN) := ok_Nets_init T h_Rooms_init h_Rooms_parts
  have h_Nets_cut_down : HasM P w K mg base CN 1 "cut_down" ["self"] (spCut CR CN) := ok_Nets_cut_down T
  have h_Nets_walk : HasM P w K mg base CN 2 "walk" ["self", "place", "is_back"] (spWalk CR CN) := ok_Nets_walk T h_Nets_surplus h_Nets_row_at
  have h_Nets_settle : HasM P w K mg base CN 3 "settle" ["self", "place", "is_back"] (spSettle CR CN) := ok_Nets_settle T h_Nets_surplus h_Nets_walk
  have h_Nets_balance : HasM P w K mg base CN 4 "balance" ["self", "is_back"] (spBalance CR CN) := ok_Nets_balance T h_Nets_surplus h_Nets_settle
  have h_are_loose_rows : Has P w K mg base 3 "are_loose_rows" ["web", "flow"] (spLooseRows K CW) := ok_are_loose_rows T h_is_row h_are_places h_is_amount
  have h_is_loose : Has P w K mg base 6 "is_loose" ["web", "froms", "tos", "flow"] (spIsLoose K CW) := ok_is_loose T h_are_loose_rows h_Nets_init h_Nets_surplus
  have h_led_flow : Has P w K mg base 7 "led_flow" ["web", "froms", "tos", "flow"] (spLed K CW) := ok_led_flow T h_are_ends h_is_loose h_Nets_init h_Nets_cut_down h_Nets_balance h_Rooms_put h_filled h_Rooms_flow
  have h_law_cell : Has P w K mg base 1 "_law_cell" ["_law_script", "_law_k"] (spCe K) := ok_law_cell T
  have h_law_draws : Has P w K mg base 2 "_law_draws" ["_law_script", "_law_at", "_law_many"] (spDraws K) := ok_law_draws T h_law_cell
  have h_law_next : Has P w K mg base 1 "_law_next" ["_law_draws_here"] spNext := ok_law_next T
  have h_law_weight : Has P w K mg base 2 "_law_weight" ["_law_draws_here"] (spWeight K) := ok_law_weight T h_law_next
  have h_law_order : Has P w K mg base 2 "_law_order" ["_law_draws_here", "_law_many"] spOrder := ok_law_order T h_law_next
  have h_law_pairs : Has P w K mg base 2 "_law_pairs" ["_law_draws_here", "_law_many"] spPairs := ok_law_pairs T h_law_next
  have h_law_web : Has P w K mg base 3 "_law_web" ["_law_draws_here", "_law_least", "_law_most"] (spWeb K) := ok_law_web T h_law_next h_law_order h_law_weight h_law_pairs
  have h_law_rows : Has P w K mg base 2 "_law_rows" ["_law_draws_here", "_law_ties"] (spRows K) := ok_law_rows T h_law_next
  have h_law_parts : Has P w K mg base 1 "_law_parts" ["_law_ties"] (spPts K) := ok_law_parts T
  have h_law_amount : Has P w K mg base 1 "_law_amount" ["_law_counted"] (spAmount K) := ok_law_amount T
  have h_law_new_weight : Has P w K mg base 2 "_law_new_weight" ["_law_draws_here", "_law_ties", "_law_i", "_law_j"] (spNewW K) := ok_law_new_weight T h_law_next h_law_amount
  have h_law_changed : Has P w K mg base 1 "_law_changed" ["_law_ties", "_law_i", "_law_j", "_law_weight_here"] (spChg K) := ok_law_changed T
  have h_law_turned : Has P w K mg base 1 "_law_turned" ["_law_flow"] (spTurned K) := ok_law_turned T
  have h_law_ends : Has P w K mg base 3 "_law_ends" ["_law_draws_here", "_law_many"] (spEndsL K) := ok_law_ends T h_law_next h_law_order
  have h_law_side_parts : Has P w K mg base 1 "_law_side_parts" ["_law_many", "_law_counted", "_law_side"] (spSideP K) := ok_law_side_parts T
  have h_law_sides_between : Has P w K mg base 1 "_law_sides_between" ["_law_many", "_law_ends_here"] (spSides K) := ok_law_sides_between T
  have h_law_least_sides : Has P w K mg base 2 "_law_least_sides" ["_law_many", "_law_counted", "_law_ends_here"] (spLeast_ K) := ok_law_least_sides T h_law_sides_between h_law_side_parts
  have h_law_measure : Has P w K mg base 1 "_law_measure" ["_law_flow"] (spMeas K) := ok_law_measure T
  have h_law_are_rows : Has P w K mg base 1 "_law_are_rows" ["_law_flow"] (spAreRows K) := ok_law_are_rows T
  have h_law_worth : Has P w K mg base 2 "_law_worth" ["_law_many", "_law_counted", "_law_ends_here", "_law_flow"] (spWorth K) := ok_law_worth T h_law_are_rows h_law_measure
  have h_law_is_greatest : Has P w K mg base 10 "_law_is_greatest" ["_law_web_here", "_law_ties", "_law_ends_here", "_law_flow"] (spIsG K CW) := ok_law_is_greatest T h_law_parts h_law_worth h_law_least_sides h_shortest_flow h_near_side h_far_side
  have h_law : BodyOk P w K mg base ["_law_script", "_law_draws_here", "_law_many", "_law_ties", "_law_ends_here", "_law_flow", "_law_turn", "_law_change", "_law_i", "_law_j", "_law_weight_here", "_law_web_here", "_law_rest", "_law_worth_here"] "law" s_law 10 (spLawT K) := ok_law T h_law_draws h_law_next h_law_web h_law_ends h_law_order h_law_new_weight h_law_changed h_law_turned h_law_rows h_Web_init h_led_flow h_law_is_greatest h_halved_flow h_pushed_flow h_law_parts h_law_worth
  exact h_law
end
theorem facts {P : Program} {w : World} {K : PySem.W.Frag} {h : Heap} {mg : Str → Option Value} {f : Addr} (X : K.In h) (G : h.Ns mainGlobals mg) (hfa : mg ("law" : Str) = some (.ref f)) (c : SaysC fa fn exB K) :
    ∃ fd : FuncData, (∀ (s : Shared) (v : Value), BindsTo s fd ⟨[v], []⟩ [("_law_script", v)]) ∧ ∀ base : Heap, K.In base → base.Ns mainGlobals mg → FnOk P w K mg base CX0 11 f fd ["_law_script"] (spLawT K) := by
  have T := top_of X G c
  obtain ⟨f', fd, hm, F⟩ := T.law
  have e := hfa.symm.trans hm
  cases e
  have b := FunD.bindsA (ps := ["_law_script"]) F fun _ _ _ _ _ _ us hl => match us, hl with | [_], _ => rfl
  exact ⟨fd, fun s v => b s [v] rfl, fun base _ _ => fnok_of F sc_law (fun vs H Q E h => by
    obtain ⟨p, ns, rfl, _⟩ := h
    rfl) (all_ok T)⟩
end Cut
open PySem PySem.W PySem.Calls PyProof.Rows
theorem PySem.Challenge.cw_cutstree_k78_whole_flow_led_many_holds : PySem.Challenge.rw_cutstree_k78_whole_flow_led_many.Holds := by
  w_on; o_law
  refine HandSHeadRun.head_any (r := OpenLaw.row PySem.Challenge.rw_cutstree_k78_whole_flow_led_many) (q := view (OpenLaw.row PySem.Challenge.rw_cutstree_k78_whole_flow_led_many).prog [90]) (H := Cut.hk) (ob := Cut.ob) (M := 20000) (loose := Cut.loose) (d := HandSHeadRun.topDef (OpenLaw.row PySem.Challenge.rw_cutstree_k78_whole_flow_led_many).prog 90) (kwd := []) Cut.ob_eq
    (by kernel_rfl) (fun s => by kernel_rfl) Cut.run (by kernel_rfl) (by kernel_rfl) (by kernel_rfl) (by rfl) (by first | assumption | decide +kernel) (by decide +kernel) ⟨rfl, rfl, rfl, rfl, rfl, by decide +kernel⟩ ?hw ?hc
  case hw => w_witness2
  case hc =>
    refine L2.walk_ofE (l := PySem.Challenge.rw_cutstree_k78_whole_flow_led_many) (n := 63) (k := 11) (x := "_law_script") (CX := L2.CX0) rfl (by decide) (by kernel_rfl) ⟨rfl, by decide, by decide⟩ ?F (fun _ _ _ _ z => z)
    intro w mg fa h Y G hmg0
    obtain ⟨K, KX, c⟩ := Y
    have hmg : mg ("law" : PySem.Str) = some (.ref fa) := by
      have e : (HandSHeadRun.topDef (OpenLaw.row PySem.Challenge.rw_cutstree_k78_whole_flow_led_many).prog 90).name = ("law" : PySem.Str) := by kernel_rfl
      rw [← e]
      exact hmg0
    obtain ⟨fd, hb, hF⟩ := Cut.facts (P := (PySem.Challenge.rw_cutstree_k78_whole_flow_led_many).prog) (w := w) KX G hmg c
    exact ⟨K, fd, Cut.spLawT K, KX, hb, fun H a ns hl _ hS => ⟨a, ns, rfl, hS, fun _ => rfl⟩, hF⟩
