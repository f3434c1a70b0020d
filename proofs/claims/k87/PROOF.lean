import PyProof.Rows.All
import Wide.All
import OpenK.AllK
import Wide.FinOn
import KE.KStateDown
import HandS.ForMost
import HandS.Exc
import HandS.Defaults
import HandS.Star
import HandS.Property
import HandS.ClsMeth
import HandS.IsInst
import HandS.HeadHook1
import HandS.HeadHook2
import HandS.HeadHook3
import HandS.HeadNt
import HandS.Head0
import HandS.Head1
import HandS.Head2
import HandS.HeadEnd
import PyProof.EqAt
import PyProof.NeKinds
import KE.GoesEnum
import KE.GoesMore
import HandS.Walk
import HandS.TupAny
import HandS.Conv
import HandS.DictComp
import HandS.Zip
import PyProof.InstNe
import KE.KDictPairs
import KE.KUnpackStar
import PyProof.MakeMany
import KE.KItemsList
import HandS.ListItems
import HandS.MapObj
import HandS.SetFor
import HandS.Strs
import PySem.Challenge.RW_carryprobe_k87_whole_changes_seen_in_tri
set_option Elab.async false
set_option linter.all false
set_option maxRecDepth 100000
set_option maxHeartbeats 4000000
namespace Cp
open PySem PySem.Spec PyProof.Rows L2
/-! ### the text by places -/
def top (i : Nat) : Stmt := PySem.Challenge.pw_carryprobe_k87_whole_changes_seen_in_tri.main.body.getD i (.Pass ⟨0, 0, 0, 0⟩)
/-- the getter of a property that the class at C has under the name m -/
def pgA (K : PySem.W.Frag) (C : Addr) (m : Str) : Addr := match PySem.W.recIn K (He.ma K C m) "property" with
  | some (.ref g :: _) => g
  | _ => 0
abbrev gA (x : Str) (K : PySem.W.Frag) : Addr := He.ga K x
abbrev mA (c m : Str) (K : PySem.W.Frag) : Addr := He.ma K (He.ga K c) m
abbrev pA (c m : Str) (K : PySem.W.Frag) : Addr := pgA K (He.ga K c) m

abbrev s_is_between : Stmt := top 25
abbrev s_is_row : Stmt := top 26
abbrev s_is_sequence : Stmt := top 27
abbrev s_has_states : Stmt := top 33
abbrev s_is_trial : Stmt := top 34
abbrev s_is_ring_trial : Stmt := top 35
abbrev s_state_at : Stmt := top 36
abbrev s_trial_with : Stmt := top 37
abbrev s_carry_of : Stmt := top 38
abbrev s_first_ones : Stmt := top 50
abbrev s_is_cell : Stmt := top 53
abbrev s_checked_cells : Stmt := top 54
abbrev s_checked_outputs : Stmt := top 55
abbrev s_node_orders : Stmt := top 56
abbrev s_node_states : Stmt := top 57
abbrev s_of_kind : Stmt := top 81
abbrev s_cell_nodes : Stmt := top 82
abbrev s_all_nodes : Stmt := top 83
abbrev s_inputs_of : Stmt := top 84
abbrev s_rebuilt : Stmt := top 85
abbrev s_merge : Stmt := top 87
abbrev s_is_wire : Stmt := top 92
abbrev s_need_wire : Stmt := top 93
abbrev s_highest_source : Stmt := top 94
abbrev s_rewired : Stmt := top 95
abbrev s_is_edit : Stmt := top 98
abbrev s_with_cell : Stmt := top 99
abbrev s_without_cell : Stmt := top 100
abbrev s_edited : Stmt := top 101
abbrev s_recorded : Stmt := top 102
abbrev s_changed_outputs : Stmt := top 103
abbrev s_zero_state : Stmt := top 106
abbrev s_telling_trial : Stmt := top 107
abbrev s_law_tap : Stmt := top 109
abbrev s_law_next : Stmt := top 110
abbrev s_law_follow : Stmt := top 111
abbrev s_law_orders : Stmt := top 112
abbrev s_law_between : Stmt := top 113
abbrev s_law_rewired : Stmt := top 114
abbrev s_law_added : Stmt := top 115
abbrev s_law_without : Stmt := top 116
abbrev s_law_dropped : Stmt := top 117
abbrev s_law_merged : Stmt := top 118
abbrev s_law_replaced : Stmt := top 119
abbrev s_law_done : Stmt := top 120
abbrev s_law_begun : Stmt := top 121
abbrev s_law_wire : Stmt := top 122
abbrev s_law_wish : Stmt := top 123
abbrev s_law_net : Stmt := top 124
abbrev s_law_tests : Stmt := top 125
abbrev s_law_drawn : Stmt := top 126
abbrev s_law_seen : Stmt := top 127
abbrev s_law_parting : Stmt := top 128
abbrev s_law_told_right : Stmt := top 129
abbrev s_law_step_right : Stmt := top 130
abbrev s_law : Stmt := top 131
abbrev s_Order_init : Stmt := inClass (top 51) 1
abbrev s_Order_eq : Stmt := inClass (top 51) 4
abbrev s_Order_add : Stmt := inClass (top 51) 9
abbrev s_Order_positions : Stmt := inClass (top 51) 2
abbrev s_Network_init : Stmt := inClass (top 77) 5
abbrev s_Network_need_node : Stmt := inClass (top 77) 15
abbrev s_Network_need_trial : Stmt := inClass (top 77) 16
abbrev s_Network_held_states : Stmt := inClass (top 77) 19
abbrev s_Network_carries : Stmt := inClass (top 77) 21
abbrev s_Network_len : Stmt := inClass (top 77) 29
abbrev s_Network_eq : Stmt := inClass (top 77) 30
abbrev s_Network_size : Stmt := inClass (top 77) 6
abbrev s_Network_cells : Stmt := inClass (top 77) 7
abbrev s_Network_outputs : Stmt := inClass (top 77) 8
abbrev s_Network_orders : Stmt := inClass (top 77) 11
abbrev s_Ring_need_trial : Stmt := inClass (top 79) 4
abbrev s_Bench_init : Stmt := inClass (top 104) 0
abbrev s_Bench_settle : Stmt := inClass (top 104) 6
abbrev s_Bench_apply : Stmt := inClass (top 104) 13
abbrev s_Bench_undo : Stmt := inClass (top 104) 14
abbrev s_Bench_redo : Stmt := inClass (top 104) 15
abbrev s_Bench_mark : Stmt := inClass (top 104) 21
abbrev s_Bench_back_to : Stmt := inClass (top 104) 22
abbrev s_Bench_network : Stmt := inClass (top 104) 1
def d_is_between : He5.DefA := ⟨gA "is_between", "is_between", "is_between", defArgs s_is_between, defBody s_is_between, defScope s_is_between, [], []⟩
def d_is_row : He5.DefA := ⟨gA "is_row", "is_row", "is_row", defArgs s_is_row, defBody s_is_row, defScope s_is_row, [], []⟩
def d_is_sequence : He5.DefA := ⟨gA "is_sequence", "is_sequence", "is_sequence", defArgs s_is_sequence, defBody s_is_sequence, defScope s_is_sequence, [], []⟩
def d_has_states : He5.DefA := ⟨gA "has_states", "has_states", "has_states", defArgs s_has_states, defBody s_has_states, defScope s_has_states, [], []⟩
def d_is_trial : He5.DefA := ⟨gA "is_trial", "is_trial", "is_trial", defArgs s_is_trial, defBody s_is_trial, defScope s_is_trial, [], []⟩
def d_is_ring_trial : He5.DefA := ⟨gA "is_ring_trial", "is_ring_trial", "is_ring_trial", defArgs s_is_ring_trial, defBody s_is_ring_trial, defScope s_is_ring_trial, [], []⟩
def d_state_at : He5.DefA := ⟨gA "state_at", "state_at", "state_at", defArgs s_state_at, defBody s_state_at, defScope s_state_at, [], []⟩
def d_trial_with : He5.DefA := ⟨gA "trial_with", "trial_with", "trial_with", defArgs s_trial_with, defBody s_trial_with, defScope s_trial_with, [], [("zero", .str "K")]⟩
def d_carry_of : He5.DefA := ⟨gA "carry_of", "carry_of", "carry_of", defArgs s_carry_of, defBody s_carry_of, defScope s_carry_of, [], []⟩
def d_first_ones : He5.DefA := ⟨gA "first_ones", "first_ones", "first_ones", defArgs s_first_ones, defBody s_first_ones, defScope s_first_ones, [], []⟩
def d_is_cell : He5.DefA := ⟨gA "is_cell", "is_cell", "is_cell", defArgs s_is_cell, defBody s_is_cell, defScope s_is_cell, [], []⟩
def d_checked_cells : He5.DefA := ⟨gA "checked_cells", "checked_cells", "checked_cells", defArgs s_checked_cells, defBody s_checked_cells, defScope s_checked_cells, [], []⟩
def d_checked_outputs : He5.DefA := ⟨gA "checked_outputs", "checked_outputs", "checked_outputs", defArgs s_checked_outputs, defBody s_checked_outputs, defScope s_checked_outputs, [], []⟩
def d_node_orders : He5.DefA := ⟨gA "node_orders", "node_orders", "node_orders", defArgs s_node_orders, defBody s_node_orders, defScope s_node_orders, [], []⟩
def d_node_states : He5.DefA := ⟨gA "node_states", "node_states", "node_states", defArgs s_node_states, defBody s_node_states, defScope s_node_states, [], []⟩
def d_of_kind : He5.DefA := ⟨gA "of_kind", "of_kind", "of_kind", defArgs s_of_kind, defBody s_of_kind, defScope s_of_kind, [], []⟩
def d_cell_nodes : He5.DefA := ⟨gA "cell_nodes", "cell_nodes", "cell_nodes", defArgs s_cell_nodes, defBody s_cell_nodes, defScope s_cell_nodes, [], []⟩
def d_all_nodes : He5.DefA := ⟨gA "all_nodes", "all_nodes", "all_nodes", defArgs s_all_nodes, defBody s_all_nodes, defScope s_all_nodes, [], []⟩
def d_inputs_of : He5.DefA := ⟨gA "inputs_of", "inputs_of", "inputs_of", defArgs s_inputs_of, defBody s_inputs_of, defScope s_inputs_of, [], []⟩
def d_rebuilt : He5.DefA := ⟨gA "rebuilt", "rebuilt", "rebuilt", defArgs s_rebuilt, defBody s_rebuilt, defScope s_rebuilt, [], []⟩
def d_merge : He5.DefA := ⟨gA "merge", "merge", "merge", defArgs s_merge, defBody s_merge, defScope s_merge, [], []⟩
def d_is_wire : He5.DefA := ⟨gA "is_wire", "is_wire", "is_wire", defArgs s_is_wire, defBody s_is_wire, defScope s_is_wire, [], []⟩
def d_need_wire : He5.DefA := ⟨gA "need_wire", "need_wire", "need_wire", defArgs s_need_wire, defBody s_need_wire, defScope s_need_wire, [], []⟩
def d_highest_source : He5.DefA := ⟨gA "highest_source", "highest_source", "highest_source", defArgs s_highest_source, defBody s_highest_source, defScope s_highest_source, [], []⟩
def d_rewired : He5.DefA := ⟨gA "rewired", "rewired", "rewired", defArgs s_rewired, defBody s_rewired, defScope s_rewired, [], []⟩
def d_is_edit : He5.DefA := ⟨gA "is_edit", "is_edit", "is_edit", defArgs s_is_edit, defBody s_is_edit, defScope s_is_edit, [], []⟩
def d_with_cell : He5.DefA := ⟨gA "with_cell", "with_cell", "with_cell", defArgs s_with_cell, defBody s_with_cell, defScope s_with_cell, [], []⟩
def d_without_cell : He5.DefA := ⟨gA "without_cell", "without_cell", "without_cell", defArgs s_without_cell, defBody s_without_cell, defScope s_without_cell, [], []⟩
def d_edited : He5.DefA := ⟨gA "edited", "edited", "edited", defArgs s_edited, defBody s_edited, defScope s_edited, [], []⟩
def d_recorded : He5.DefA := ⟨gA "recorded", "recorded", "recorded", defArgs s_recorded, defBody s_recorded, defScope s_recorded, [], []⟩
def d_changed_outputs : He5.DefA := ⟨gA "changed_outputs", "changed_outputs", "changed_outputs", defArgs s_changed_outputs, defBody s_changed_outputs, defScope s_changed_outputs, [], []⟩
def d_zero_state : He5.DefA := ⟨gA "zero_state", "zero_state", "zero_state", defArgs s_zero_state, defBody s_zero_state, defScope s_zero_state, [], []⟩
def d_telling_trial : He5.DefA := ⟨gA "telling_trial", "telling_trial", "telling_trial", defArgs s_telling_trial, defBody s_telling_trial, defScope s_telling_trial, [], [("ring", .bl false)]⟩
def d_law_tap : He5.DefA := ⟨gA "_law_tap", "_law_tap", "_law_tap", defArgs s_law_tap, defBody s_law_tap, defScope s_law_tap, [], []⟩
def d_law_next : He5.DefA := ⟨gA "_law_next", "_law_next", "_law_next", defArgs s_law_next, defBody s_law_next, defScope s_law_next, [], []⟩
def d_law_follow : He5.DefA := ⟨gA "_law_follow", "_law_follow", "_law_follow", defArgs s_law_follow, defBody s_law_follow, defScope s_law_follow, [], []⟩
def d_law_orders : He5.DefA := ⟨gA "_law_orders", "_law_orders", "_law_orders", defArgs s_law_orders, defBody s_law_orders, defScope s_law_orders, [], []⟩
def d_law_between : He5.DefA := ⟨gA "_law_between", "_law_between", "_law_between", defArgs s_law_between, defBody s_law_between, defScope s_law_between, [], []⟩
def d_law_rewired : He5.DefA := ⟨gA "_law_rewired", "_law_rewired", "_law_rewired", defArgs s_law_rewired, defBody s_law_rewired, defScope s_law_rewired, [], []⟩
def d_law_added : He5.DefA := ⟨gA "_law_added", "_law_added", "_law_added", defArgs s_law_added, defBody s_law_added, defScope s_law_added, [], []⟩
def d_law_without : He5.DefA := ⟨gA "_law_without", "_law_without", "_law_without", defArgs s_law_without, defBody s_law_without, defScope s_law_without, [], []⟩
def d_law_dropped : He5.DefA := ⟨gA "_law_dropped", "_law_dropped", "_law_dropped", defArgs s_law_dropped, defBody s_law_dropped, defScope s_law_dropped, [], []⟩
def d_law_merged : He5.DefA := ⟨gA "_law_merged", "_law_merged", "_law_merged", defArgs s_law_merged, defBody s_law_merged, defScope s_law_merged, [], []⟩
def d_law_replaced : He5.DefA := ⟨gA "_law_replaced", "_law_replaced", "_law_replaced", defArgs s_law_replaced, defBody s_law_replaced, defScope s_law_replaced, [], []⟩
def d_law_done : He5.DefA := ⟨gA "_law_done", "_law_done", "_law_done", defArgs s_law_done, defBody s_law_done, defScope s_law_done, [], []⟩
def d_law_begun : He5.DefA := ⟨gA "_law_begun", "_law_begun", "_law_begun", defArgs s_law_begun, defBody s_law_begun, defScope s_law_begun, [], []⟩
def d_law_wire : He5.DefA := ⟨gA "_law_wire", "_law_wire", "_law_wire", defArgs s_law_wire, defBody s_law_wire, defScope s_law_wire, [], []⟩
def d_law_wish : He5.DefA := ⟨gA "_law_wish", "_law_wish", "_law_wish", defArgs s_law_wish, defBody s_law_wish, defScope s_law_wish, [], []⟩
def d_law_net : He5.DefA := ⟨gA "_law_net", "_law_net", "_law_net", defArgs s_law_net, defBody s_law_net, defScope s_law_net, [], []⟩
def d_law_tests : He5.DefA := ⟨gA "_law_tests", "_law_tests", "_law_tests", defArgs s_law_tests, defBody s_law_tests, defScope s_law_tests, [], []⟩
def d_law_drawn : He5.DefA := ⟨gA "_law_drawn", "_law_drawn", "_law_drawn", defArgs s_law_drawn, defBody s_law_drawn, defScope s_law_drawn, [], []⟩
def d_law_seen : He5.DefA := ⟨gA "_law_seen", "_law_seen", "_law_seen", defArgs s_law_seen, defBody s_law_seen, defScope s_law_seen, [], []⟩
def d_law_parting : He5.DefA := ⟨gA "_law_parting", "_law_parting", "_law_parting", defArgs s_law_parting, defBody s_law_parting, defScope s_law_parting, [], []⟩
def d_law_told_right : He5.DefA := ⟨gA "_law_told_right", "_law_told_right", "_law_told_right", defArgs s_law_told_right, defBody s_law_told_right, defScope s_law_told_right, [], []⟩
def d_law_step_right : He5.DefA := ⟨gA "_law_step_right", "_law_step_right", "_law_step_right", defArgs s_law_step_right, defBody s_law_step_right, defScope s_law_step_right, [], []⟩
def d_law : He5.DefA := ⟨gA "law", "law", "law", defArgs s_law, defBody s_law, defScope s_law, [], []⟩
def d_Order_init : He5.DefA := ⟨mA "Order" "__init__", "__init__", "Order.__init__", defArgs s_Order_init, defBody s_Order_init, defScope s_Order_init, [], []⟩
def d_Order_eq : He5.DefA := ⟨mA "Order" "__eq__", "__eq__", "Order.__eq__", defArgs s_Order_eq, defBody s_Order_eq, defScope s_Order_eq, [], []⟩
def d_Order_add : He5.DefA := ⟨mA "Order" "__add__", "__add__", "Order.__add__", defArgs s_Order_add, defBody s_Order_add, defScope s_Order_add, [], []⟩
def d_Order_positions : He5.DefA := ⟨pA "Order" "positions", "positions", "Order.positions", defArgs s_Order_positions, defBody s_Order_positions, defScope s_Order_positions, [], []⟩
def d_Network_init : He5.DefA := ⟨mA "Network" "__init__", "__init__", "Network.__init__", defArgs s_Network_init, defBody s_Network_init, defScope s_Network_init, [], []⟩
def d_Network_need_node : He5.DefA := ⟨mA "Network" "need_node", "need_node", "Network.need_node", defArgs s_Network_need_node, defBody s_Network_need_node, defScope s_Network_need_node, [], []⟩
def d_Network_need_trial : He5.DefA := ⟨mA "Network" "need_trial", "need_trial", "Network.need_trial", defArgs s_Network_need_trial, defBody s_Network_need_trial, defScope s_Network_need_trial, [], []⟩
def d_Network_held_states : He5.DefA := ⟨mA "Network" "held_states", "held_states", "Network.held_states", defArgs s_Network_held_states, defBody s_Network_held_states, defScope s_Network_held_states, [], []⟩
def d_Network_carries : He5.DefA := ⟨mA "Network" "carries", "carries", "Network.carries", defArgs s_Network_carries, defBody s_Network_carries, defScope s_Network_carries, [], []⟩
def d_Network_len : He5.DefA := ⟨mA "Network" "__len__", "__len__", "Network.__len__", defArgs s_Network_len, defBody s_Network_len, defScope s_Network_len, [], []⟩
def d_Network_eq : He5.DefA := ⟨mA "Network" "__eq__", "__eq__", "Network.__eq__", defArgs s_Network_eq, defBody s_Network_eq, defScope s_Network_eq, [], []⟩
def d_Network_size : He5.DefA := ⟨pA "Network" "size", "size", "Network.size", defArgs s_Network_size, defBody s_Network_size, defScope s_Network_size, [], []⟩
def d_Network_cells : He5.DefA := ⟨pA "Network" "cells", "cells", "Network.cells", defArgs s_Network_cells, defBody s_Network_cells, defScope s_Network_cells, [], []⟩
def d_Network_outputs : He5.DefA := ⟨pA "Network" "outputs", "outputs", "Network.outputs", defArgs s_Network_outputs, defBody s_Network_outputs, defScope s_Network_outputs, [], []⟩
def d_Network_orders : He5.DefA := ⟨pA "Network" "orders", "orders", "Network.orders", defArgs s_Network_orders, defBody s_Network_orders, defScope s_Network_orders, [], []⟩
def d_Ring_init : He5.DefA := ⟨mA "Ring" "__init__", "__init__", "Network.__init__", defArgs s_Network_init, defBody s_Network_init, defScope s_Network_init, [], []⟩
def d_Ring_need_node : He5.DefA := ⟨mA "Ring" "need_node", "need_node", "Network.need_node", defArgs s_Network_need_node, defBody s_Network_need_node, defScope s_Network_need_node, [], []⟩
def d_Ring_need_trial : He5.DefA := ⟨mA "Ring" "need_trial", "need_trial", "Ring.need_trial", defArgs s_Ring_need_trial, defBody s_Ring_need_trial, defScope s_Ring_need_trial, [], []⟩
def d_Ring_held_states : He5.DefA := ⟨mA "Ring" "held_states", "held_states", "Network.held_states", defArgs s_Network_held_states, defBody s_Network_held_states, defScope s_Network_held_states, [], []⟩
def d_Ring_carries : He5.DefA := ⟨mA "Ring" "carries", "carries", "Network.carries", defArgs s_Network_carries, defBody s_Network_carries, defScope s_Network_carries, [], []⟩
def d_Ring_len : He5.DefA := ⟨mA "Ring" "__len__", "__len__", "Network.__len__", defArgs s_Network_len, defBody s_Network_len, defScope s_Network_len, [], []⟩
def d_Ring_eq : He5.DefA := ⟨mA "Ring" "__eq__", "__eq__", "Network.__eq__", defArgs s_Network_eq, defBody s_Network_eq, defScope s_Network_eq, [], []⟩
def d_Ring_size : He5.DefA := ⟨pA "Ring" "size", "size", "Network.size", defArgs s_Network_size, defBody s_Network_size, defScope s_Network_size, [], []⟩
def d_Ring_cells : He5.DefA := ⟨pA "Ring" "cells", "cells", "Network.cells", defArgs s_Network_cells, defBody s_Network_cells, defScope s_Network_cells, [], []⟩
def d_Ring_outputs : He5.DefA := ⟨pA "Ring" "outputs", "outputs", "Network.outputs", defArgs s_Network_outputs, defBody s_Network_outputs, defScope s_Network_outputs, [], []⟩
def d_Ring_orders : He5.DefA := ⟨pA "Ring" "orders", "orders", "Network.orders", defArgs s_Network_orders, defBody s_Network_orders, defScope s_Network_orders, [], []⟩
def d_Bench_init : He5.DefA := ⟨mA "Bench" "__init__", "__init__", "Bench.__init__", defArgs s_Bench_init, defBody s_Bench_init, defScope s_Bench_init, [], []⟩
def d_Bench_settle : He5.DefA := ⟨mA "Bench" "settle", "settle", "Bench.settle", defArgs s_Bench_settle, defBody s_Bench_settle, defScope s_Bench_settle, [], []⟩
def d_Bench_apply : He5.DefA := ⟨mA "Bench" "apply", "apply", "Bench.apply", defArgs s_Bench_apply, defBody s_Bench_apply, defScope s_Bench_apply, [], []⟩
def d_Bench_undo : He5.DefA := ⟨mA "Bench" "undo", "undo", "Bench.undo", defArgs s_Bench_undo, defBody s_Bench_undo, defScope s_Bench_undo, [], []⟩
def d_Bench_redo : He5.DefA := ⟨mA "Bench" "redo", "redo", "Bench.redo", defArgs s_Bench_redo, defBody s_Bench_redo, defScope s_Bench_redo, [], []⟩
def d_Bench_mark : He5.DefA := ⟨mA "Bench" "mark", "mark", "Bench.mark", defArgs s_Bench_mark, defBody s_Bench_mark, defScope s_Bench_mark, [], []⟩
def d_Bench_back_to : He5.DefA := ⟨mA "Bench" "back_to", "back_to", "Bench.back_to", defArgs s_Bench_back_to, defBody s_Bench_back_to, defScope s_Bench_back_to, [], []⟩
def d_Bench_network : He5.DefA := ⟨pA "Bench" "network", "network", "Bench.network", defArgs s_Bench_network, defBody s_Bench_network, defScope s_Bench_network, [], []⟩
def fnL0 : List He5.DefA := [d_is_between, d_is_row, d_is_sequence, d_has_states, d_is_trial, d_is_ring_trial, d_state_at, d_trial_with, d_carry_of, d_first_ones, d_is_cell, d_checked_cells, d_checked_outputs, d_node_orders]
def fnL1 : List He5.DefA := [d_node_states, d_of_kind, d_cell_nodes, d_all_nodes, d_inputs_of, d_rebuilt, d_merge, d_is_wire, d_need_wire, d_highest_source, d_rewired, d_is_edit, d_with_cell, d_without_cell]
def fnL2 : List He5.DefA := [d_edited, d_recorded, d_changed_outputs, d_zero_state, d_telling_trial, d_law_tap, d_law_next, d_law_follow, d_law_orders, d_law_between, d_law_rewired, d_law_added, d_law_without, d_law_dropped]
def fnL3 : List He5.DefA := [d_law_merged, d_law_replaced, d_law_done, d_law_begun, d_law_wire, d_law_wish, d_law_net, d_law_tests, d_law_drawn, d_law_seen, d_law_parting, d_law_told_right, d_law_step_right, d_law]
def fnL4 : List He5.DefA := [d_Order_init, d_Order_eq, d_Order_add, d_Order_positions, d_Network_init, d_Network_need_node, d_Network_need_trial, d_Network_held_states, d_Network_carries, d_Network_len, d_Network_eq, d_Network_size, d_Network_cells, d_Network_outputs]
def fnL5 : List He5.DefA := [d_Network_orders, d_Ring_init, d_Ring_need_node, d_Ring_need_trial, d_Ring_held_states, d_Ring_carries, d_Ring_len, d_Ring_eq, d_Ring_size, d_Ring_cells, d_Ring_outputs, d_Ring_orders, d_Bench_init, d_Bench_settle]
def fnL6 : List He5.DefA := [d_Bench_apply, d_Bench_undo, d_Bench_redo, d_Bench_mark, d_Bench_back_to, d_Bench_network]
def fnL : List He5.DefA := fnL0 ++ fnL1 ++ fnL2 ++ fnL3 ++ fnL4 ++ fnL5 ++ fnL6
def gloL0 : List Str := ["is_between", "is_row", "is_sequence", "has_states", "is_trial", "is_ring_trial", "state_at", "trial_with", "carry_of", "first_ones", "is_cell", "checked_cells", "checked_outputs", "node_orders"]
def gloL1 : List Str := ["node_states", "of_kind", "cell_nodes", "all_nodes", "inputs_of", "rebuilt", "merge", "is_wire", "need_wire", "highest_source", "rewired", "is_edit", "with_cell", "without_cell"]
def gloL2 : List Str := ["edited", "recorded", "changed_outputs", "zero_state", "telling_trial", "_law_tap", "_law_next", "_law_follow", "_law_orders", "_law_between", "_law_rewired", "_law_added", "_law_without", "_law_dropped"]
def gloL3 : List Str := ["_law_merged", "_law_replaced", "_law_done", "_law_begun", "_law_wire", "_law_wish", "_law_net", "_law_tests", "_law_drawn", "_law_seen", "_law_parting", "_law_told_right", "_law_step_right", "law"]
def gloL4 : List Str := ["Order", "Network", "Ring", "Bench"]
def gloL : List Str := gloL0 ++ gloL1 ++ gloL2 ++ gloL3 ++ gloL4
def freeL0 : List Str := ["isinstance", "int", "bool", "tuple", "list", "str", "len", "enumerate", "range", "dict", "zip", "max", "any", "sorted"]
def freeL1 : List Str := ["set", "abs"]
def freeL : List Str := freeL0 ++ freeL1
def strL0 : List (Str × Str) := [("GENERATE", "G"), ("KILL", "K"), ("PASS", "P"), ("UPPER", "upper"), ("LOWER", "lower"), ("OUTPUT", "output")]
def strL : List (Str × Str) := strL0
def intL0 : List (Str × Int) := [("MOST_CELLS", 150)]
def intL : List (Str × Int) := intL0
def clsL0 : List Str := ["Order", "Network", "Ring", "Bench"]
def clsL : List Str := clsL0
def noatL0 : List (Str × Str) := [("Order", "entries"), ("Network", "bits"), ("Network", "joins"), ("Network", "ends"), ("Network", "held"), ("Ring", "bits"), ("Ring", "joins"), ("Ring", "ends"), ("Ring", "held"), ("Bench", "net"), ("Bench", "past"), ("Bench", "ahead"), ("Bench", "marked")]
def noatL : List (Str × Str) := noatL0
def methL0 : List (Str × Str) := [("Order", "__eq__"), ("Order", "__add__"), ("Network", "need_node"), ("Network", "need_trial"), ("Network", "held_states"), ("Network", "carries"), ("Network", "__len__"), ("Network", "__eq__"), ("Ring", "need_node"), ("Ring", "need_trial"), ("Ring", "held_states"), ("Ring", "carries"), ("Ring", "__len__"), ("Ring", "__eq__")]
def methL1 : List (Str × Str) := [("Bench", "settle"), ("Bench", "apply"), ("Bench", "undo"), ("Bench", "redo"), ("Bench", "mark"), ("Bench", "back_to")]
def methL : List (Str × Str) := methL0 ++ methL1
def propL0 : List (Str × Str) := [("Order", "positions"), ("Network", "size"), ("Network", "cells"), ("Network", "outputs"), ("Network", "orders"), ("Ring", "size"), ("Ring", "cells"), ("Ring", "outputs"), ("Ring", "orders"), ("Bench", "network")]
def propL : List (Str × Str) := propL0
def conL0 : List (Str × Str × He.Dv) := [("Order", "GREATEST", .int 24), ("Network", "LEAST_BITS", .int 1), ("Network", "MOST_BITS", .int 24), ("Network", "LOWEST", .int 0), ("Network", "KIND", .str "adder"), ("Ring", "LEAST_BITS", .int 2), ("Ring", "MOST_BITS", .int 24), ("Ring", "LOWEST", .int 1), ("Ring", "KIND", .str "ring")]
def conL : List (Str × Str × He.Dv) := conL0
def isiL0 : List (Str × Str × Bool) := [("Order", "Order", true), ("Network", "Network", true), ("Ring", "Network", true)]
def isiL : List (Str × Str × Bool) := isiL0

/-- what isinstance asks of an instance of the class at C -/
structure IsiOf (K : PySem.W.Frag) (C : Addr) : Prop where
  ca : PySem.W.findIn K (.ref C) "__class__" = some (some (.builtin "object.__class__"))
  cn : PySem.W.specialIn K (.builtin "object.__class__") "__get__" = some (some (.builtin "getset_descriptor.__get__"))
  ct : PySem.W.takesIn K (.builtin "object.__class__") = some true
  cm : PySem.W.mroIn K C (.type "object") = some true
/-- what the program's top has written -/
structure Txt (w : World) (K : PySem.W.Frag) (mg : Str → Option Value) : Prop where
  fn : ∀ (i : Nat) (d : He5.DefA), fnL[i]? = some d → ∃ fd, FunD K d.name d.qual d.params d.body d.scope (d.dvs K) (d.kws K) (d.at_ K) fd
  glo : ∀ (i : Nat) (x : Str), gloL[i]? = some x → mg x = some (.ref (He.ga K x)) ∧ PySem.W.keepIn K (.ref (He.ga K x)) = true
  free : ∀ (i : Nat) (x : Str), freeL[i]? = some x → mg x = none
  str : ∀ (i : Nat) (q : Str × Str), strL[i]? = some q → ∃ t, mg q.1 = some (.str q.2 t)
  int : ∀ (i : Nat) (q : Str × Int), intL[i]? = some q → ∃ t, mg q.1 = some (.int q.2 t)
  cls : ∀ (i : Nat) (x : Str), clsL[i]? = some x → Cls K (He.ga K x) ∧ IsiOf K (He.ga K x) ∧ Mk K (He.ga K x) (He.ma K (He.ga K x) "__init__") ∧ PySem.W.findIn K (.ref (He.ga K x)) "__ne__" = some (some (.builtin "object.__ne__")) ∧ PySem.W.selfFirst K (He.ga K x) = true
  noat : ∀ (i : Nat) (q : Str × Str), noatL[i]? = some q → NoAttr K (He.ga K q.1) q.2
  meth : ∀ (i : Nat) (q : Str × Str), methL[i]? = some q → Meth K (He.ga K q.1) q.2 (He.ma K (He.ga K q.1) q.2)
  prop : ∀ (i : Nat) (q : Str × Str), propL[i]? = some q → PropOf K (He.ga K q.1) q.2 (He.ma K (He.ga K q.1) q.2) (pgA K (He.ga K q.1) q.2)
  con : ∀ (i : Nat) (q : Str × Str × He.Dv), conL[i]? = some q → ∃ u, Con K (He.ga K q.1) q.2.1 (q.2.2.v K) u
  isi : ∀ (i : Nat) (q : Str × Str × Bool), isiL[i]? = some q → PySem.W.kitOne K (.ref (He.ga K q.1)) (.ref (He.ga K q.2.1)) = some q.2.2
  kind : ∃ u, ClX.CVal K (He.ga K "Ring") (.type "type") "KIND" (.str "ring") u
  read : ClX.CRead K (He.ga K "Ring") (.type "type")
  states : mg "STATES" = some (.ref (He.ga K "STATES")) ∧ ∀ H, SqT K H (He.ga K "STATES") [.str "G", .str "K", .str "P"]
  parts : mg "PARTS" = some (.ref (He.ga K "PARTS")) ∧ ∃ es n, KDict K w (He.ga K "PARTS") es n
  partv : ∀ q ∈ ([("rewire", 3), ("add", 3), ("drop", 2), ("merge", 3), ("change", 2)] : List (Str × Int)), ∃ u, PySem.W.nsIn K (He.ga K "PARTS") q.1 = some (some u) ∧ RelV (.int q.2) u
section
variable {w : World} {K : PySem.W.Frag} {mg : Str → Option Value}

theorem Txt.f_is_between (T : Txt w K mg) : ∃ fd, FunD K "is_between" "is_between" (defArgs s_is_between) (defBody s_is_between) (defScope s_is_between) [] [] (gA "is_between" K) fd := T.fn 0 d_is_between rfl
theorem Txt.f_is_row (T : Txt w K mg) : ∃ fd, FunD K "is_row" "is_row" (defArgs s_is_row) (defBody s_is_row) (defScope s_is_row) [] [] (gA "is_row" K) fd := T.fn 1 d_is_row rfl
theorem Txt.f_is_sequence (T : Txt w K mg) : ∃ fd, FunD K "is_sequence" "is_sequence" (defArgs s_is_sequence) (defBody s_is_sequence) (defScope s_is_sequence) [] [] (gA "is_sequence" K) fd := T.fn 2 d_is_sequence rfl
theorem Txt.f_has_states (T : Txt w K mg) : ∃ fd, FunD K "has_states" "has_states" (defArgs s_has_states) (defBody s_has_states) (defScope s_has_states) [] [] (gA "has_states" K) fd := T.fn 3 d_has_states rfl
theorem Txt.f_is_trial (T : Txt w K mg) : ∃ fd, FunD K "is_trial" "is_trial" (defArgs s_is_trial) (defBody s_is_trial) (defScope s_is_trial) [] [] (gA "is_trial" K) fd := T.fn 4 d_is_trial rfl
theorem Txt.f_is_ring_trial (T : Txt w K mg) : ∃ fd, FunD K "is_ring_trial" "is_ring_trial" (defArgs s_is_ring_trial) (defBody s_is_ring_trial) (defScope s_is_ring_trial) [] [] (gA "is_ring_trial" K) fd := T.fn 5 d_is_ring_trial rfl
theorem Txt.f_state_at (T : Txt w K mg) : ∃ fd, FunD K "state_at" "state_at" (defArgs s_state_at) (defBody s_state_at) (defScope s_state_at) [] [] (gA "state_at" K) fd := T.fn 6 d_state_at rfl
theorem Txt.f_trial_with (T : Txt w K mg) : ∃ fd, FunD K "trial_with" "trial_with" (defArgs s_trial_with) (defBody s_trial_with) (defScope s_trial_with) [] [("zero", .str "K")] (gA "trial_with" K) fd := T.fn 7 d_trial_with rfl
theorem Txt.f_carry_of (T : Txt w K mg) : ∃ fd, FunD K "carry_of" "carry_of" (defArgs s_carry_of) (defBody s_carry_of) (defScope s_carry_of) [] [] (gA "carry_of" K) fd := T.fn 8 d_carry_of rfl
theorem Txt.f_first_ones (T : Txt w K mg) : ∃ fd, FunD K "first_ones" "first_ones" (defArgs s_first_ones) (defBody s_first_ones) (defScope s_first_ones) [] [] (gA "first_ones" K) fd := T.fn 9 d_first_ones rfl
theorem Txt.f_is_cell (T : Txt w K mg) : ∃ fd, FunD K "is_cell" "is_cell" (defArgs s_is_cell) (defBody s_is_cell) (defScope s_is_cell) [] [] (gA "is_cell" K) fd := T.fn 10 d_is_cell rfl
theorem Txt.f_checked_cells (T : Txt w K mg) : ∃ fd, FunD K "checked_cells" "checked_cells" (defArgs s_checked_cells) (defBody s_checked_cells) (defScope s_checked_cells) [] [] (gA "checked_cells" K) fd := T.fn 11 d_checked_cells rfl
theorem Txt.f_checked_outputs (T : Txt w K mg) : ∃ fd, FunD K "checked_outputs" "checked_outputs" (defArgs s_checked_outputs) (defBody s_checked_outputs) (defScope s_checked_outputs) [] [] (gA "checked_outputs" K) fd := T.fn 12 d_checked_outputs rfl
theorem Txt.f_node_orders (T : Txt w K mg) : ∃ fd, FunD K "node_orders" "node_orders" (defArgs s_node_orders) (defBody s_node_orders) (defScope s_node_orders) [] [] (gA "node_orders" K) fd := T.fn 13 d_node_orders rfl
theorem Txt.f_node_states (T : Txt w K mg) : ∃ fd, FunD K "node_states" "node_states" (defArgs s_node_states) (defBody s_node_states) (defScope s_node_states) [] [] (gA "node_states" K) fd := T.fn 14 d_node_states rfl
theorem Txt.f_of_kind (T : Txt w K mg) : ∃ fd, FunD K "of_kind" "of_kind" (defArgs s_of_kind) (defBody s_of_kind) (defScope s_of_kind) [] [] (gA "of_kind" K) fd := T.fn 15 d_of_kind rfl
theorem Txt.f_cell_nodes (T : Txt w K mg) : ∃ fd, FunD K "cell_nodes" "cell_nodes" (defArgs s_cell_nodes) (defBody s_cell_nodes) (defScope s_cell_nodes) [] [] (gA "cell_nodes" K) fd := T.fn 16 d_cell_nodes rfl
theorem Txt.f_all_nodes (T : Txt w K mg) : ∃ fd, FunD K "all_nodes" "all_nodes" (defArgs s_all_nodes) (defBody s_all_nodes) (defScope s_all_nodes) [] [] (gA "all_nodes" K) fd := T.fn 17 d_all_nodes rfl
theorem Txt.f_inputs_of (T : Txt w K mg) : ∃ fd, FunD K "inputs_of" "inputs_of" (defArgs s_inputs_of) (defBody s_inputs_of) (defScope s_inputs_of) [] [] (gA "inputs_of" K) fd := T.fn 18 d_inputs_of rfl
theorem Txt.f_rebuilt (T : Txt w K mg) : ∃ fd, FunD K "rebuilt" "rebuilt" (defArgs s_rebuilt) (defBody s_rebuilt) (defScope s_rebuilt) [] [] (gA "rebuilt" K) fd := T.fn 19 d_rebuilt rfl
theorem Txt.f_merge (T : Txt w K mg) : ∃ fd, FunD K "merge" "merge" (defArgs s_merge) (defBody s_merge) (defScope s_merge) [] [] (gA "merge" K) fd := T.fn 20 d_merge rfl
theorem Txt.f_is_wire (T : Txt w K mg) : ∃ fd, FunD K "is_wire" "is_wire" (defArgs s_is_wire) (defBody s_is_wire) (defScope s_is_wire) [] [] (gA "is_wire" K) fd := T.fn 21 d_is_wire rfl
theorem Txt.f_need_wire (T : Txt w K mg) : ∃ fd, FunD K "need_wire" "need_wire" (defArgs s_need_wire) (defBody s_need_wire) (defScope s_need_wire) [] [] (gA "need_wire" K) fd := T.fn 22 d_need_wire rfl
theorem Txt.f_highest_source (T : Txt w K mg) : ∃ fd, FunD K "highest_source" "highest_source" (defArgs s_highest_source) (defBody s_highest_source) (defScope s_highest_source) [] [] (gA "highest_source" K) fd := T.fn 23 d_highest_source rfl
theorem Txt.f_rewired (T : Txt w K mg) : ∃ fd, FunD K "rewired" "rewired" (defArgs s_rewired) (defBody s_rewired) (defScope s_rewired) [] [] (gA "rewired" K) fd := T.fn 24 d_rewired rfl
theorem Txt.f_is_edit (T : Txt w K mg) : ∃ fd, FunD K "is_edit" "is_edit" (defArgs s_is_edit) (defBody s_is_edit) (defScope s_is_edit) [] [] (gA "is_edit" K) fd := T.fn 25 d_is_edit rfl
theorem Txt.f_with_cell (T : Txt w K mg) : ∃ fd, FunD K "with_cell" "with_cell" (defArgs s_with_cell) (defBody s_with_cell) (defScope s_with_cell) [] [] (gA "with_cell" K) fd := T.fn 26 d_with_cell rfl
theorem Txt.f_without_cell (T : Txt w K mg) : ∃ fd, FunD K "without_cell" "without_cell" (defArgs s_without_cell) (defBody s_without_cell) (defScope s_without_cell) [] [] (gA "without_cell" K) fd := T.fn 27 d_without_cell rfl
theorem Txt.f_edited (T : Txt w K mg) : ∃ fd, FunD K "edited" "edited" (defArgs s_edited) (defBody s_edited) (defScope s_edited) [] [] (gA "edited" K) fd := T.fn 28 d_edited rfl
theorem Txt.f_recorded (T : Txt w K mg) : ∃ fd, FunD K "recorded" "recorded" (defArgs s_recorded) (defBody s_recorded) (defScope s_recorded) [] [] (gA "recorded" K) fd := T.fn 29 d_recorded rfl
theorem Txt.f_changed_outputs (T : Txt w K mg) : ∃ fd, FunD K "changed_outputs" "changed_outputs" (defArgs s_changed_outputs) (defBody s_changed_outputs) (defScope s_changed_outputs) [] [] (gA "changed_outputs" K) fd := T.fn 30 d_changed_outputs rfl
theorem Txt.f_zero_state (T : Txt w K mg) : ∃ fd, FunD K "zero_state" "zero_state" (defArgs s_zero_state) (defBody s_zero_state) (defScope s_zero_state) [] [] (gA "zero_state" K) fd := T.fn 31 d_zero_state rfl
theorem Txt.f_telling_trial (T : Txt w K mg) : ∃ fd, FunD K "telling_trial" "telling_trial" (defArgs s_telling_trial) (defBody s_telling_trial) (defScope s_telling_trial) [] [("ring", .bl false)] (gA "telling_trial" K) fd := T.fn 32 d_telling_trial rfl
theorem Txt.f_law_tap (T : Txt w K mg) : ∃ fd, FunD K "_law_tap" "_law_tap" (defArgs s_law_tap) (defBody s_law_tap) (defScope s_law_tap) [] [] (gA "_law_tap" K) fd := T.fn 33 d_law_tap rfl
theorem Txt.f_law_next (T : Txt w K mg) : ∃ fd, FunD K "_law_next" "_law_next" (defArgs s_law_next) (defBody s_law_next) (defScope s_law_next) [] [] (gA "_law_next" K) fd := T.fn 34 d_law_next rfl
theorem Txt.f_law_follow (T : Txt w K mg) : ∃ fd, FunD K "_law_follow" "_law_follow" (defArgs s_law_follow) (defBody s_law_follow) (defScope s_law_follow) [] [] (gA "_law_follow" K) fd := T.fn 35 d_law_follow rfl
theorem Txt.f_law_orders (T : Txt w K mg) : ∃ fd, FunD K "_law_orders" "_law_orders" (defArgs s_law_orders) (defBody s_law_orders) (defScope s_law_orders) [] [] (gA "_law_orders" K) fd := T.fn 36 d_law_orders rfl
theorem Txt.f_law_between (T : Txt w K mg) : ∃ fd, FunD K "_law_between" "_law_between" (defArgs s_law_between) (defBody s_law_between) (defScope s_law_between) [] [] (gA "_law_between" K) fd := T.fn 37 d_law_between rfl
theorem Txt.f_law_rewired (T : Txt w K mg) : ∃ fd, FunD K "_law_rewired" "_law_rewired" (defArgs s_law_rewired) (defBody s_law_rewired) (defScope s_law_rewired) [] [] (gA "_law_rewired" K) fd := T.fn 38 d_law_rewired rfl
theorem Txt.f_law_added (T : Txt w K mg) : ∃ fd, FunD K "_law_added" "_law_added" (defArgs s_law_added) (defBody s_law_added) (defScope s_law_added) [] [] (gA "_law_added" K) fd := T.fn 39 d_law_added rfl
theorem Txt.f_law_without (T : Txt w K mg) : ∃ fd, FunD K "_law_without" "_law_without" (defArgs s_law_without) (defBody s_law_without) (defScope s_law_without) [] [] (gA "_law_without" K) fd := T.fn 40 d_law_without rfl
theorem Txt.f_law_dropped (T : Txt w K mg) : ∃ fd, FunD K "_law_dropped" "_law_dropped" (defArgs s_law_dropped) (defBody s_law_dropped) (defScope s_law_dropped) [] [] (gA "_law_dropped" K) fd := T.fn 41 d_law_dropped rfl
theorem Txt.f_law_merged (T : Txt w K mg) : ∃ fd, FunD K "_law_merged" "_law_merged" (defArgs s_law_merged) (defBody s_law_merged) (defScope s_law_merged) [] [] (gA "_law_merged" K) fd := T.fn 42 d_law_merged rfl
theorem Txt.f_law_replaced (T : Txt w K mg) : ∃ fd, FunD K "_law_replaced" "_law_replaced" (defArgs s_law_replaced) (defBody s_law_replaced) (defScope s_law_replaced) [] [] (gA "_law_replaced" K) fd := T.fn 43 d_law_replaced rfl
theorem Txt.f_law_done (T : Txt w K mg) : ∃ fd, FunD K "_law_done" "_law_done" (defArgs s_law_done) (defBody s_law_done) (defScope s_law_done) [] [] (gA "_law_done" K) fd := T.fn 44 d_law_done rfl
theorem Txt.f_law_begun (T : Txt w K mg) : ∃ fd, FunD K "_law_begun" "_law_begun" (defArgs s_law_begun) (defBody s_law_begun) (defScope s_law_begun) [] [] (gA "_law_begun" K) fd := T.fn 45 d_law_begun rfl
theorem Txt.f_law_wire (T : Txt w K mg) : ∃ fd, FunD K "_law_wire" "_law_wire" (defArgs s_law_wire) (defBody s_law_wire) (defScope s_law_wire) [] [] (gA "_law_wire" K) fd := T.fn 46 d_law_wire rfl
theorem Txt.f_law_wish (T : Txt w K mg) : ∃ fd, FunD K "_law_wish" "_law_wish" (defArgs s_law_wish) (defBody s_law_wish) (defScope s_law_wish) [] [] (gA "_law_wish" K) fd := T.fn 47 d_law_wish rfl
theorem Txt.f_law_net (T : Txt w K mg) : ∃ fd, FunD K "_law_net" "_law_net" (defArgs s_law_net) (defBody s_law_net) (defScope s_law_net) [] [] (gA "_law_net" K) fd := T.fn 48 d_law_net rfl
theorem Txt.f_law_tests (T : Txt w K mg) : ∃ fd, FunD K "_law_tests" "_law_tests" (defArgs s_law_tests) (defBody s_law_tests) (defScope s_law_tests) [] [] (gA "_law_tests" K) fd := T.fn 49 d_law_tests rfl
theorem Txt.f_law_drawn (T : Txt w K mg) : ∃ fd, FunD K "_law_drawn" "_law_drawn" (defArgs s_law_drawn) (defBody s_law_drawn) (defScope s_law_drawn) [] [] (gA "_law_drawn" K) fd := T.fn 50 d_law_drawn rfl
theorem Txt.f_law_seen (T : Txt w K mg) : ∃ fd, FunD K "_law_seen" "_law_seen" (defArgs s_law_seen) (defBody s_law_seen) (defScope s_law_seen) [] [] (gA "_law_seen" K) fd := T.fn 51 d_law_seen rfl
theorem Txt.f_law_parting (T : Txt w K mg) : ∃ fd, FunD K "_law_parting" "_law_parting" (defArgs s_law_parting) (defBody s_law_parting) (defScope s_law_parting) [] [] (gA "_law_parting" K) fd := T.fn 52 d_law_parting rfl
theorem Txt.f_law_told_right (T : Txt w K mg) : ∃ fd, FunD K "_law_told_right" "_law_told_right" (defArgs s_law_told_right) (defBody s_law_told_right) (defScope s_law_told_right) [] [] (gA "_law_told_right" K) fd := T.fn 53 d_law_told_right rfl
theorem Txt.f_law_step_right (T : Txt w K mg) : ∃ fd, FunD K "_law_step_right" "_law_step_right" (defArgs s_law_step_right) (defBody s_law_step_right) (defScope s_law_step_right) [] [] (gA "_law_step_right" K) fd := T.fn 54 d_law_step_right rfl
theorem Txt.f_law (T : Txt w K mg) : ∃ fd, FunD K "law" "law" (defArgs s_law) (defBody s_law) (defScope s_law) [] [] (gA "law" K) fd := T.fn 55 d_law rfl
theorem Txt.f_Order_init (T : Txt w K mg) : ∃ fd, FunD K "__init__" "Order.__init__" (defArgs s_Order_init) (defBody s_Order_init) (defScope s_Order_init) [] [] (mA "Order" "__init__" K) fd := T.fn 56 d_Order_init rfl
theorem Txt.f_Order_eq (T : Txt w K mg) : ∃ fd, FunD K "__eq__" "Order.__eq__" (defArgs s_Order_eq) (defBody s_Order_eq) (defScope s_Order_eq) [] [] (mA "Order" "__eq__" K) fd := T.fn 57 d_Order_eq rfl
theorem Txt.f_Order_add (T : Txt w K mg) : ∃ fd, FunD K "__add__" "Order.__add__" (defArgs s_Order_add) (defBody s_Order_add) (defScope s_Order_add) [] [] (mA "Order" "__add__" K) fd := T.fn 58 d_Order_add rfl
theorem Txt.f_Order_positions (T : Txt w K mg) : ∃ fd, FunD K "positions" "Order.positions" (defArgs s_Order_positions) (defBody s_Order_positions) (defScope s_Order_positions) [] [] (pA "Order" "positions" K) fd := T.fn 59 d_Order_positions rfl
theorem Txt.f_Network_init (T : Txt w K mg) : ∃ fd, FunD K "__init__" "Network.__init__" (defArgs s_Network_init) (defBody s_Network_init) (defScope s_Network_init) [] [] (mA "Network" "__init__" K) fd := T.fn 60 d_Network_init rfl
theorem Txt.f_Network_need_node (T : Txt w K mg) : ∃ fd, FunD K "need_node" "Network.need_node" (defArgs s_Network_need_node) (defBody s_Network_need_node) (defScope s_Network_need_node) [] [] (mA "Network" "need_node" K) fd := T.fn 61 d_Network_need_node rfl
theorem Txt.f_Network_need_trial (T : Txt w K mg) : ∃ fd, FunD K "need_trial" "Network.need_trial" (defArgs s_Network_need_trial) (defBody s_Network_need_trial) (defScope s_Network_need_trial) [] [] (mA "Network" "need_trial" K) fd := T.fn 62 d_Network_need_trial rfl
theorem Txt.f_Network_held_states (T : Txt w K mg) : ∃ fd, FunD K "held_states" "Network.held_states" (defArgs s_Network_held_states) (defBody s_Network_held_states) (defScope s_Network_held_states) [] [] (mA "Network" "held_states" K) fd := T.fn 63 d_Network_held_states rfl
theorem Txt.f_Network_carries (T : Txt w K mg) : ∃ fd, FunD K "carries" "Network.carries" (defArgs s_Network_carries) (defBody s_Network_carries) (defScope s_Network_carries) [] [] (mA "Network" "carries" K) fd := T.fn 64 d_Network_carries rfl
theorem Txt.f_Network_len (T : Txt w K mg) : ∃ fd, FunD K "__len__" "Network.__len__" (defArgs s_Network_len) (defBody s_Network_len) (defScope s_Network_len) [] [] (mA "Network" "__len__" K) fd := T.fn 65 d_Network_len rfl
theorem Txt.f_Network_eq (T : Txt w K mg) : ∃ fd, FunD K "__eq__" "Network.__eq__" (defArgs s_Network_eq) (defBody s_Network_eq) (defScope s_Network_eq) [] [] (mA "Network" "__eq__" K) fd := T.fn 66 d_Network_eq rfl
theorem Txt.f_Network_size (T : Txt w K mg) : ∃ fd, FunD K "size" "Network.size" (defArgs s_Network_size) (defBody s_Network_size) (defScope s_Network_size) [] [] (pA "Network" "size" K) fd := T.fn 67 d_Network_size rfl
theorem Txt.f_Network_cells (T : Txt w K mg) : ∃ fd, FunD K "cells" "Network.cells" (defArgs s_Network_cells) (defBody s_Network_cells) (defScope s_Network_cells) [] [] (pA "Network" "cells" K) fd := T.fn 68 d_Network_cells rfl
theorem Txt.f_Network_outputs (T : Txt w K mg) : ∃ fd, FunD K "outputs" "Network.outputs" (defArgs s_Network_outputs) (defBody s_Network_outputs) (defScope s_Network_outputs) [] [] (pA "Network" "outputs" K) fd := T.fn 69 d_Network_outputs rfl
theorem Txt.f_Network_orders (T : Txt w K mg) : ∃ fd, FunD K "orders" "Network.orders" (defArgs s_Network_orders) (defBody s_Network_orders) (defScope s_Network_orders) [] [] (pA "Network" "orders" K) fd := T.fn 70 d_Network_orders rfl
theorem Txt.f_Ring_init (T : Txt w K mg) : ∃ fd, FunD K "__init__" "Network.__init__" (defArgs s_Network_init) (defBody s_Network_init) (defScope s_Network_init) [] [] (mA "Ring" "__init__" K) fd := T.fn 71 d_Ring_init rfl
theorem Txt.f_Ring_need_node (T : Txt w K mg) : ∃ fd, FunD K "need_node" "Network.need_node" (defArgs s_Network_need_node) (defBody s_Network_need_node) (defScope s_Network_need_node) [] [] (mA "Ring" "need_node" K) fd := T.fn 72 d_Ring_need_node rfl
theorem Txt.f_Ring_need_trial (T : Txt w K mg) : ∃ fd, FunD K "need_trial" "Ring.need_trial" (defArgs s_Ring_need_trial) (defBody s_Ring_need_trial) (defScope s_Ring_need_trial) [] [] (mA "Ring" "need_trial" K) fd := T.fn 73 d_Ring_need_trial rfl
theorem Txt.f_Ring_held_states (T : Txt w K mg) : ∃ fd, FunD K "held_states" "Network.held_states" (defArgs s_Network_held_states) (defBody s_Network_held_states) (defScope s_Network_held_states) [] [] (mA "Ring" "held_states" K) fd := T.fn 74 d_Ring_held_states rfl
theorem Txt.f_Ring_carries (T : Txt w K mg) : ∃ fd, FunD K "carries" "Network.carries" (defArgs s_Network_carries) (defBody s_Network_carries) (defScope s_Network_carries) [] [] (mA "Ring" "carries" K) fd := T.fn 75 d_Ring_carries rfl
theorem Txt.f_Ring_len (T : Txt w K mg) : ∃ fd, FunD K "__len__" "Network.__len__" (defArgs s_Network_len) (defBody s_Network_len) (defScope s_Network_len) [] [] (mA "Ring" "__len__" K) fd := T.fn 76 d_Ring_len rfl
theorem Txt.f_Ring_eq (T : Txt w K mg) : ∃ fd, FunD K "__eq__" "Network.__eq__" (defArgs s_Network_eq) (defBody s_Network_eq) (defScope s_Network_eq) [] [] (mA "Ring" "__eq__" K) fd := T.fn 77 d_Ring_eq rfl
theorem Txt.f_Ring_size (T : Txt w K mg) : ∃ fd, FunD K "size" "Network.size" (defArgs s_Network_size) (defBody s_Network_size) (defScope s_Network_size) [] [] (pA "Ring" "size" K) fd := T.fn 78 d_Ring_size rfl
theorem Txt.f_Ring_cells (T : Txt w K mg) : ∃ fd, FunD K "cells" "Network.cells" (defArgs s_Network_cells) (defBody s_Network_cells) (defScope s_Network_cells) [] [] (pA "Ring" "cells" K) fd := T.fn 79 d_Ring_cells rfl
theorem Txt.f_Ring_outputs (T : Txt w K mg) : ∃ fd, FunD K "outputs" "Network.outputs" (defArgs s_Network_outputs) (defBody s_Network_outputs) (defScope s_Network_outputs) [] [] (pA "Ring" "outputs" K) fd := T.fn 80 d_Ring_outputs rfl
theorem Txt.f_Ring_orders (T : Txt w K mg) : ∃ fd, FunD K "orders" "Network.orders" (defArgs s_Network_orders) (defBody s_Network_orders) (defScope s_Network_orders) [] [] (pA "Ring" "orders" K) fd := T.fn 81 d_Ring_orders rfl
theorem Txt.f_Bench_init (T : Txt w K mg) : ∃ fd, FunD K "__init__" "Bench.__init__" (defArgs s_Bench_init) (defBody s_Bench_init) (defScope s_Bench_init) [] [] (mA "Bench" "__init__" K) fd := T.fn 82 d_Bench_init rfl
theorem Txt.f_Bench_settle (T : Txt w K mg) : ∃ fd, FunD K "settle" "Bench.settle" (defArgs s_Bench_settle) (defBody s_Bench_settle) (defScope s_Bench_settle) [] [] (mA "Bench" "settle" K) fd := T.fn 83 d_Bench_settle rfl
theorem Txt.f_Bench_apply (T : Txt w K mg) : ∃ fd, FunD K "apply" "Bench.apply" (defArgs s_Bench_apply) (defBody s_Bench_apply) (defScope s_Bench_apply) [] [] (mA "Bench" "apply" K) fd := T.fn 84 d_Bench_apply rfl
theorem Txt.f_Bench_undo (T : Txt w K mg) : ∃ fd, FunD K "undo" "Bench.undo" (defArgs s_Bench_undo) (defBody s_Bench_undo) (defScope s_Bench_undo) [] [] (mA "Bench" "undo" K) fd := T.fn 85 d_Bench_undo rfl
theorem Txt.f_Bench_redo (T : Txt w K mg) : ∃ fd, FunD K "redo" "Bench.redo" (defArgs s_Bench_redo) (defBody s_Bench_redo) (defScope s_Bench_redo) [] [] (mA "Bench" "redo" K) fd := T.fn 86 d_Bench_redo rfl
theorem Txt.f_Bench_mark (T : Txt w K mg) : ∃ fd, FunD K "mark" "Bench.mark" (defArgs s_Bench_mark) (defBody s_Bench_mark) (defScope s_Bench_mark) [] [] (mA "Bench" "mark" K) fd := T.fn 87 d_Bench_mark rfl
theorem Txt.f_Bench_back_to (T : Txt w K mg) : ∃ fd, FunD K "back_to" "Bench.back_to" (defArgs s_Bench_back_to) (defBody s_Bench_back_to) (defScope s_Bench_back_to) [] [] (mA "Bench" "back_to" K) fd := T.fn 88 d_Bench_back_to rfl
theorem Txt.f_Bench_network (T : Txt w K mg) : ∃ fd, FunD K "network" "Bench.network" (defArgs s_Bench_network) (defBody s_Bench_network) (defScope s_Bench_network) [] [] (pA "Bench" "network" K) fd := T.fn 89 d_Bench_network rfl
theorem Txt.g_is_between (T : Txt w K mg) : mg "is_between" = some (.ref (gA "is_between" K)) := (T.glo 0 "is_between" rfl).1
theorem Txt.k_is_between (T : Txt w K mg) : PySem.W.keepIn K (.ref (gA "is_between" K)) = true := (T.glo 0 "is_between" rfl).2
theorem Txt.g_is_row (T : Txt w K mg) : mg "is_row" = some (.ref (gA "is_row" K)) := (T.glo 1 "is_row" rfl).1
theorem Txt.k_is_row (T : Txt w K mg) : PySem.W.keepIn K (.ref (gA "is_row" K)) = true := (T.glo 1 "is_row" rfl).2
theorem Txt.g_is_sequence (T : Txt w K mg) : mg "is_sequence" = some (.ref (gA "is_sequence" K)) := (T.glo 2 "is_sequence" rfl).1
theorem Txt.k_is_sequence (T : Txt w K mg) : PySem.W.keepIn K (.ref (gA "is_sequence" K)) = true := (T.glo 2 "is_sequence" rfl).2
theorem Txt.g_has_states (T : Txt w K mg) : mg "has_states" = some (.ref (gA "has_states" K)) := (T.glo 3 "has_states" rfl).1
theorem Txt.k_has_states (T : Txt w K mg) : PySem.W.keepIn K (.ref (gA "has_states" K)) = true := (T.glo 3 "has_states" rfl).2
theorem Txt.g_is_trial (T : Txt w K mg) : mg "is_trial" = some (.ref (gA "is_trial" K)) := (T.glo 4 "is_trial" rfl).1
theorem Txt.k_is_trial (T : Txt w K mg) : PySem.W.keepIn K (.ref (gA "is_trial" K)) = true := (T.glo 4 "is_trial" rfl).2
theorem Txt.g_is_ring_trial (T : Txt w K mg) : mg "is_ring_trial" = some (.ref (gA "is_ring_trial" K)) := (T.glo 5 "is_ring_trial" rfl).1
theorem Txt.k_is_ring_trial (T : Txt w K mg) : PySem.W.keepIn K (.ref (gA "is_ring_trial" K)) = true := (T.glo 5 "is_ring_trial" rfl).2
theorem Txt.g_state_at (T : Txt w K mg) : mg "state_at" = some (.ref (gA "state_at" K)) := (T.glo 6 "state_at" rfl).1
theorem Txt.k_state_at (T : Txt w K mg) : PySem.W.keepIn K (.ref (gA "state_at" K)) = true := (T.glo 6 "state_at" rfl).2
theorem Txt.g_trial_with (T : Txt w K mg) : mg "trial_with" = some (.ref (gA "trial_with" K)) := (T.glo 7 "trial_with" rfl).1
theorem Txt.k_trial_with (T : Txt w K mg) : PySem.W.keepIn K (.ref (gA "trial_with" K)) = true := (T.glo 7 "trial_with" rfl).2
theorem Txt.g_carry_of (T : Txt w K mg) : mg "carry_of" = some (.ref (gA "carry_of" K)) := (T.glo 8 "carry_of" rfl).1
theorem Txt.k_carry_of (T : Txt w K mg) : PySem.W.keepIn K (.ref (gA "carry_of" K)) = true := (T.glo 8 "carry_of" rfl).2
theorem Txt.g_first_ones (T : Txt w K mg) : mg "first_ones" = some (.ref (gA "first_ones" K)) := (T.glo 9 "first_ones" rfl).1
theorem Txt.k_first_ones (T : Txt w K mg) : PySem.W.keepIn K (.ref (gA "first_ones" K)) = true := (T.glo 9 "first_ones" rfl).2
theorem Txt.g_is_cell (T : Txt w K mg) : mg "is_cell" = some (.ref (gA "is_cell" K)) := (T.glo 10 "is_cell" rfl).1
theorem Txt.k_is_cell (T : Txt w K mg) : PySem.W.keepIn K (.ref (gA "is_cell" K)) = true := (T.glo 10 "is_cell" rfl).2
theorem Txt.g_checked_cells (T : Txt w K mg) : mg "checked_cells" = some (.ref (gA "checked_cells" K)) := (T.glo 11 "checked_cells" rfl).1
theorem Txt.k_checked_cells (T : Txt w K mg) : PySem.W.keepIn K (.ref (gA "checked_cells" K)) = true := (T.glo 11 "checked_cells" rfl).2
theorem Txt.g_checked_outputs (T : Txt w K mg) : mg "checked_outputs" = some (.ref (gA "checked_outputs" K)) := (T.glo 12 "checked_outputs" rfl).1
theorem Txt.k_checked_outputs (T : Txt w K mg) : PySem.W.keepIn K (.ref (gA "checked_outputs" K)) = true := (T.glo 12 "checked_outputs" rfl).2
theorem Txt.g_node_orders (T : Txt w K mg) : mg "node_orders" = some (.ref (gA "node_orders" K)) := (T.glo 13 "node_orders" rfl).1
theorem Txt.k_node_orders (T : Txt w K mg) : PySem.W.keepIn K (.ref (gA "node_orders" K)) = true := (T.glo 13 "node_orders" rfl).2
theorem Txt.g_node_states (T : Txt w K mg) : mg "node_states" = some (.ref (gA "node_states" K)) := (T.glo 14 "node_states" rfl).1
theorem Txt.k_node_states (T : Txt w K mg) : PySem.W.keepIn K (.ref (gA "node_states" K)) = true := (T.glo 14 "node_states" rfl).2
theorem Txt.g_of_kind (T : Txt w K mg) : mg "of_kind" = some (.ref (gA "of_kind" K)) := (T.glo 15 "of_kind" rfl).1
theorem Txt.k_of_kind (T : Txt w K mg) : PySem.W.keepIn K (.ref (gA "of_kind" K)) = true := (T.glo 15 "of_kind" rfl).2
theorem Txt.g_cell_nodes (T : Txt w K mg) : mg "cell_nodes" = some (.ref (gA "cell_nodes" K)) := (T.glo 16 "cell_nodes" rfl).1
theorem Txt.k_cell_nodes (T : Txt w K mg) : PySem.W.keepIn K (.ref (gA "cell_nodes" K)) = true := (T.glo 16 "cell_nodes" rfl).2
theorem Txt.g_all_nodes (T : Txt w K mg) : mg "all_nodes" = some (.ref (gA "all_nodes" K)) := (T.glo 17 "all_nodes" rfl).1
theorem Txt.k_all_nodes (T : Txt w K mg) : PySem.W.keepIn K (.ref (gA "all_nodes" K)) = true := (T.glo 17 "all_nodes" rfl).2
theorem Txt.g_inputs_of (T : Txt w K mg) : mg "inputs_of" = some (.ref (gA "inputs_of" K)) := (T.glo 18 "inputs_of" rfl).1
theorem Txt.k_inputs_of (T : Txt w K mg) : PySem.W.keepIn K (.ref (gA "inputs_of" K)) = true := (T.glo 18 "inputs_of" rfl).2
theorem Txt.g_rebuilt (T : Txt w K mg) : mg "rebuilt" = some (.ref (gA "rebuilt" K)) := (T.glo 19 "rebuilt" rfl).1
theorem Txt.k_rebuilt (T : Txt w K mg) : PySem.W.keepIn K (.ref (gA "rebuilt" K)) = true := (T.glo 19 "rebuilt" rfl).2
theorem Txt.g_merge (T : Txt w K mg) : mg "merge" = some (.ref (gA "merge" K)) := (T.glo 20 "merge" rfl).1
theorem Txt.k_merge (T : Txt w K mg) : PySem.W.keepIn K (.ref (gA "merge" K)) = true := (T.glo 20 "merge" rfl).2
theorem Txt.g_is_wire (T : Txt w K mg) : mg "is_wire" = some (.ref (gA "is_wire" K)) := (T.glo 21 "is_wire" rfl).1
theorem Txt.k_is_wire (T : Txt w K mg) : PySem.W.keepIn K (.ref (gA "is_wire" K)) = true := (T.glo 21 "is_wire" rfl).2
theorem Txt.g_need_wire (T : Txt w K mg) : mg "need_wire" = some (.ref (gA "need_wire" K)) := (T.glo 22 "need_wire" rfl).1
theorem Txt.k_need_wire (T : Txt w K mg) : PySem.W.keepIn K (.ref (gA "need_wire" K)) = true := (T.glo 22 "need_wire" rfl).2
theorem Txt.g_highest_source (T : Txt w K mg) : mg "highest_source" = some (.ref (gA "highest_source" K)) := (T.glo 23 "highest_source" rfl).1
theorem Txt.k_highest_source (T : Txt w K mg) : PySem.W.keepIn K (.ref (gA "highest_source" K)) = true := (T.glo 23 "highest_source" rfl).2
theorem Txt.g_rewired (T : Txt w K mg) : mg "rewired" = some (.ref (gA "rewired" K)) := (T.glo 24 "rewired" rfl).1
theorem Txt.k_rewired (T : Txt w K mg) : PySem.W.keepIn K (.ref (gA "rewired" K)) = true := (T.glo 24 "rewired" rfl).2
theorem Txt.g_is_edit (T : Txt w K mg) : mg "is_edit" = some (.ref (gA "is_edit" K)) := (T.glo 25 "is_edit" rfl).1
theorem Txt.k_is_edit (T : Txt w K mg) : PySem.W.keepIn K (.ref (gA "is_edit" K)) = true := (T.glo 25 "is_edit" rfl).2
theorem Txt.g_with_cell (T : Txt w K mg) : mg "with_cell" = some (.ref (gA "with_cell" K)) := (T.glo 26 "with_cell" rfl).1
theorem Txt.k_with_cell (T : Txt w K mg) : PySem.W.keepIn K (.ref (gA "with_cell" K)) = true := (T.glo 26 "with_cell" rfl).2
theorem Txt.g_without_cell (T : Txt w K mg) : mg "without_cell" = some (.ref (gA "without_cell" K)) := (T.glo 27 "without_cell" rfl).1
theorem Txt.k_without_cell (T : Txt w K mg) : PySem.W.keepIn K (.ref (gA "without_cell" K)) = true := (T.glo 27 "without_cell" rfl).2
theorem Txt.g_edited (T : Txt w K mg) : mg "edited" = some (.ref (gA "edited" K)) := (T.glo 28 "edited" rfl).1
theorem Txt.k_edited (T : Txt w K mg) : PySem.W.keepIn K (.ref (gA "edited" K)) = true := (T.glo 28 "edited" rfl).2
theorem Txt.g_recorded (T : Txt w K mg) : mg "recorded" = some (.ref (gA "recorded" K)) := (T.glo 29 "recorded" rfl).1
theorem Txt.k_recorded (T : Txt w K mg) : PySem.W.keepIn K (.ref (gA "recorded" K)) = true := (T.glo 29 "recorded" rfl).2
theorem Txt.g_changed_outputs (T : Txt w K mg) : mg "changed_outputs" = some (.ref (gA "changed_outputs" K)) := (T.glo 30 "changed_outputs" rfl).1
theorem Txt.k_changed_outputs (T : Txt w K mg) : PySem.W.keepIn K (.ref (gA "changed_outputs" K)) = true := (T.glo 30 "changed_outputs" rfl).2
theorem Txt.g_zero_state (T : Txt w K mg) : mg "zero_state" = some (.ref (gA "zero_state" K)) := (T.glo 31 "zero_state" rfl).1
theorem Txt.k_zero_state (T : Txt w K mg) : PySem.W.keepIn K (.ref (gA "zero_state" K)) = true := (T.glo 31 "zero_state" rfl).2
theorem Txt.g_telling_trial (T : Txt w K mg) : mg "telling_trial" = some (.ref (gA "telling_trial" K)) := (T.glo 32 "telling_trial" rfl).1
theorem Txt.k_telling_trial (T : Txt w K mg) : PySem.W.keepIn K (.ref (gA "telling_trial" K)) = true := (T.glo 32 "telling_trial" rfl).2
theorem Txt.g_law_tap (T : Txt w K mg) : mg "_law_tap" = some (.ref (gA "_law_tap" K)) := (T.glo 33 "_law_tap" rfl).1
theorem Txt.k_law_tap (T : Txt w K mg) : PySem.W.keepIn K (.ref (gA "_law_tap" K)) = true := (T.glo 33 "_law_tap" rfl).2
theorem Txt.g_law_next (T : Txt w K mg) : mg "_law_next" = some (.ref (gA "_law_next" K)) := (T.glo 34 "_law_next" rfl).1
theorem Txt.k_law_next (T : Txt w K mg) : PySem.W.keepIn K (.ref (gA "_law_next" K)) = true := (T.glo 34 "_law_next" rfl).2
theorem Txt.g_law_follow (T : Txt w K mg) : mg "_law_follow" = some (.ref (gA "_law_follow" K)) := (T.glo 35 "_law_follow" rfl).1
theorem Txt.k_law_follow (T : Txt w K mg) : PySem.W.keepIn K (.ref (gA "_law_follow" K)) = true := (T.glo 35 "_law_follow" rfl).2
theorem Txt.g_law_orders (T : Txt w K mg) : mg "_law_orders" = some (.ref (gA "_law_orders" K)) := (T.glo 36 "_law_orders" rfl).1
theorem Txt.k_law_orders (T : Txt w K mg) : PySem.W.keepIn K (.ref (gA "_law_orders" K)) = true := (T.glo 36 "_law_orders" rfl).2
theorem Txt.g_law_between (T : Txt w K mg) : mg "_law_between" = some (.ref (gA "_law_between" K)) := (T.glo 37 "_law_between" rfl).1
theorem Txt.k_law_between (T : Txt w K mg) : PySem.W.keepIn K (.ref (gA "_law_between" K)) = true := (T.glo 37 "_law_between" rfl).2
theorem Txt.g_law_rewired (T : Txt w K mg) : mg "_law_rewired" = some (.ref (gA "_law_rewired" K)) := (T.glo 38 "_law_rewired" rfl).1
theorem Txt.k_law_rewired (T : Txt w K mg) : PySem.W.keepIn K (.ref (gA "_law_rewired" K)) = true := (T.glo 38 "_law_rewired" rfl).2
theorem Txt.g_law_added (T : Txt w K mg) : mg "_law_added" = some (.ref (gA "_law_added" K)) := (T.glo 39 "_law_added" rfl).1
theorem Txt.k_law_added (T : Txt w K mg) : PySem.W.keepIn K (.ref (gA "_law_added" K)) = true := (T.glo 39 "_law_added" rfl).2
theorem Txt.g_law_without (T : Txt w K mg) : mg "_law_without" = some (.ref (gA "_law_without" K)) := (T.glo 40 "_law_without" rfl).1
theorem Txt.k_law_without (T : Txt w K mg) : PySem.W.keepIn K (.ref (gA "_law_without" K)) = true := (T.glo 40 "_law_without" rfl).2
theorem Txt.g_law_dropped (T : Txt w K mg) : mg "_law_dropped" = some (.ref (gA "_law_dropped" K)) := (T.glo 41 "_law_dropped" rfl).1
theorem Txt.k_law_dropped (T : Txt w K mg) : PySem.W.keepIn K (.ref (gA "_law_dropped" K)) = true := (T.glo 41 "_law_dropped" rfl).2
theorem Txt.g_law_merged (T : Txt w K mg) : mg "_law_merged" = some (.ref (gA "_law_merged" K)) := (T.glo 42 "_law_merged" rfl).1
theorem Txt.k_law_merged (T : Txt w K mg) : PySem.W.keepIn K (.ref (gA "_law_merged" K)) = true := (T.glo 42 "_law_merged" rfl).2
theorem Txt.g_law_replaced (T : Txt w K mg) : mg "_law_replaced" = some (.ref (gA "_law_replaced" K)) := (T.glo 43 "_law_replaced" rfl).1
theorem Txt.k_law_replaced (T : Txt w K mg) : PySem.W.keepIn K (.ref (gA "_law_replaced" K)) = true := (T.glo 43 "_law_replaced" rfl).2
theorem Txt.g_law_done (T : Txt w K mg) : mg "_law_done" = some (.ref (gA "_law_done" K)) := (T.glo 44 "_law_done" rfl).1
theorem Txt.k_law_done (T : Txt w K mg) : PySem.W.keepIn K (.ref (gA "_law_done" K)) = true := (T.glo 44 "_law_done" rfl).2
theorem Txt.g_law_begun (T : Txt w K mg) : mg "_law_begun" = some (.ref (gA "_law_begun" K)) := (T.glo 45 "_law_begun" rfl).1
theorem Txt.k_law_begun (T : Txt w K mg) : PySem.W.keepIn K (.ref (gA "_law_begun" K)) = true := (T.glo 45 "_law_begun" rfl).2
theorem Txt.g_law_wire (T : Txt w K mg) : mg "_law_wire" = some (.ref (gA "_law_wire" K)) := (T.glo 46 "_law_wire" rfl).1
theorem Txt.k_law_wire (T : Txt w K mg) : PySem.W.keepIn K (.ref (gA "_law_wire" K)) = true := (T.glo 46 "_law_wire" rfl).2
theorem Txt.g_law_wish (T : Txt w K mg) : mg "_law_wish" = some (.ref (gA "_law_wish" K)) := (T.glo 47 "_law_wish" rfl).1
theorem Txt.k_law_wish (T : Txt w K mg) : PySem.W.keepIn K (.ref (gA "_law_wish" K)) = true := (T.glo 47 "_law_wish" rfl).2
theorem Txt.g_law_net (T : Txt w K mg) : mg "_law_net" = some (.ref (gA "_law_net" K)) := (T.glo 48 "_law_net" rfl).1
theorem Txt.k_law_net (T : Txt w K mg) : PySem.W.keepIn K (.ref (gA "_law_net" K)) = true := (T.glo 48 "_law_net" rfl).2
theorem Txt.g_law_tests (T : Txt w K mg) : mg "_law_tests" = some (.ref (gA "_law_tests" K)) := (T.glo 49 "_law_tests" rfl).1
theorem Txt.k_law_tests (T : Txt w K mg) : PySem.W.keepIn K (.ref (gA "_law_tests" K)) = true := (T.glo 49 "_law_tests" rfl).2
theorem Txt.g_law_drawn (T : Txt w K mg) : mg "_law_drawn" = some (.ref (gA "_law_drawn" K)) := (T.glo 50 "_law_drawn" rfl).1
theorem Txt.k_law_drawn (T : Txt w K mg) : PySem.W.keepIn K (.ref (gA "_law_drawn" K)) = true := (T.glo 50 "_law_drawn" rfl).2
theorem Txt.g_law_seen (T : Txt w K mg) : mg "_law_seen" = some (.ref (gA "_law_seen" K)) := (T.glo 51 "_law_seen" rfl).1
theorem Txt.k_law_seen (T : Txt w K mg) : PySem.W.keepIn K (.ref (gA "_law_seen" K)) = true := (T.glo 51 "_law_seen" rfl).2
theorem Txt.g_law_parting (T : Txt w K mg) : mg "_law_parting" = some (.ref (gA "_law_parting" K)) := (T.glo 52 "_law_parting" rfl).1
theorem Txt.k_law_parting (T : Txt w K mg) : PySem.W.keepIn K (.ref (gA "_law_parting" K)) = true := (T.glo 52 "_law_parting" rfl).2
theorem Txt.g_law_told_right (T : Txt w K mg) : mg "_law_told_right" = some (.ref (gA "_law_told_right" K)) := (T.glo 53 "_law_told_right" rfl).1
theorem Txt.k_law_told_right (T : Txt w K mg) : PySem.W.keepIn K (.ref (gA "_law_told_right" K)) = true := (T.glo 53 "_law_told_right" rfl).2
theorem Txt.g_law_step_right (T : Txt w K mg) : mg "_law_step_right" = some (.ref (gA "_law_step_right" K)) := (T.glo 54 "_law_step_right" rfl).1
theorem Txt.k_law_step_right (T : Txt w K mg) : PySem.W.keepIn K (.ref (gA "_law_step_right" K)) = true := (T.glo 54 "_law_step_right" rfl).2
theorem Txt.g_law (T : Txt w K mg) : mg "law" = some (.ref (gA "law" K)) := (T.glo 55 "law" rfl).1
theorem Txt.k_law (T : Txt w K mg) : PySem.W.keepIn K (.ref (gA "law" K)) = true := (T.glo 55 "law" rfl).2
theorem Txt.g_Order (T : Txt w K mg) : mg "Order" = some (.ref (gA "Order" K)) := (T.glo 56 "Order" rfl).1
theorem Txt.k_Order (T : Txt w K mg) : PySem.W.keepIn K (.ref (gA "Order" K)) = true := (T.glo 56 "Order" rfl).2
theorem Txt.g_Network (T : Txt w K mg) : mg "Network" = some (.ref (gA "Network" K)) := (T.glo 57 "Network" rfl).1
theorem Txt.k_Network (T : Txt w K mg) : PySem.W.keepIn K (.ref (gA "Network" K)) = true := (T.glo 57 "Network" rfl).2
theorem Txt.g_Ring (T : Txt w K mg) : mg "Ring" = some (.ref (gA "Ring" K)) := (T.glo 58 "Ring" rfl).1
theorem Txt.k_Ring (T : Txt w K mg) : PySem.W.keepIn K (.ref (gA "Ring" K)) = true := (T.glo 58 "Ring" rfl).2
theorem Txt.g_Bench (T : Txt w K mg) : mg "Bench" = some (.ref (gA "Bench" K)) := (T.glo 59 "Bench" rfl).1
theorem Txt.k_Bench (T : Txt w K mg) : PySem.W.keepIn K (.ref (gA "Bench" K)) = true := (T.glo 59 "Bench" rfl).2
theorem Txt.b_isinstance (T : Txt w K mg) : mg "isinstance" = none := T.free 0 "isinstance" rfl
theorem Txt.b_int (T : Txt w K mg) : mg "int" = none := T.free 1 "int" rfl
theorem Txt.b_bool (T : Txt w K mg) : mg "bool" = none := T.free 2 "bool" rfl
theorem Txt.b_tuple (T : Txt w K mg) : mg "tuple" = none := T.free 3 "tuple" rfl
theorem Txt.b_list (T : Txt w K mg) : mg "list" = none := T.free 4 "list" rfl
theorem Txt.b_str (T : Txt w K mg) : mg "str" = none := T.free 5 "str" rfl
theorem Txt.b_len (T : Txt w K mg) : mg "len" = none := T.free 6 "len" rfl
theorem Txt.b_enumerate (T : Txt w K mg) : mg "enumerate" = none := T.free 7 "enumerate" rfl
theorem Txt.b_range (T : Txt w K mg) : mg "range" = none := T.free 8 "range" rfl
theorem Txt.b_dict (T : Txt w K mg) : mg "dict" = none := T.free 9 "dict" rfl
theorem Txt.b_zip (T : Txt w K mg) : mg "zip" = none := T.free 10 "zip" rfl
theorem Txt.b_max (T : Txt w K mg) : mg "max" = none := T.free 11 "max" rfl
theorem Txt.b_any (T : Txt w K mg) : mg "any" = none := T.free 12 "any" rfl
theorem Txt.b_sorted (T : Txt w K mg) : mg "sorted" = none := T.free 13 "sorted" rfl
theorem Txt.b_set (T : Txt w K mg) : mg "set" = none := T.free 14 "set" rfl
theorem Txt.b_abs (T : Txt w K mg) : mg "abs" = none := T.free 15 "abs" rfl
theorem Txt.c_GENERATE (T : Txt w K mg) : ∃ t, mg "GENERATE" = some (.str "G" t) := T.str 0 ("GENERATE", "G") rfl
theorem Txt.c_KILL (T : Txt w K mg) : ∃ t, mg "KILL" = some (.str "K" t) := T.str 1 ("KILL", "K") rfl
theorem Txt.c_PASS (T : Txt w K mg) : ∃ t, mg "PASS" = some (.str "P" t) := T.str 2 ("PASS", "P") rfl
theorem Txt.c_UPPER (T : Txt w K mg) : ∃ t, mg "UPPER" = some (.str "upper" t) := T.str 3 ("UPPER", "upper") rfl
theorem Txt.c_LOWER (T : Txt w K mg) : ∃ t, mg "LOWER" = some (.str "lower" t) := T.str 4 ("LOWER", "lower") rfl
theorem Txt.c_OUTPUT (T : Txt w K mg) : ∃ t, mg "OUTPUT" = some (.str "output" t) := T.str 5 ("OUTPUT", "output") rfl
theorem Txt.c_MOST_CELLS (T : Txt w K mg) : ∃ t, mg "MOST_CELLS" = some (.int 150 t) := T.int 0 ("MOST_CELLS", 150) rfl
theorem Txt.cl_Order (T : Txt w K mg) : Cls K (gA "Order" K) := (T.cls 0 "Order" rfl).1
theorem Txt.is_Order (T : Txt w K mg) : IsiOf K (gA "Order" K) := (T.cls 0 "Order" rfl).2.1
theorem Txt.mk_Order (T : Txt w K mg) : Mk K (gA "Order" K) (mA "Order" "__init__" K) := (T.cls 0 "Order" rfl).2.2.1
theorem Txt.ne_Order (T : Txt w K mg) : PySem.W.findIn K (.ref (gA "Order" K)) "__ne__" = some (some (.builtin "object.__ne__")) := (T.cls 0 "Order" rfl).2.2.2.1
theorem Txt.sf_Order (T : Txt w K mg) : PySem.W.selfFirst K (gA "Order" K) = true := (T.cls 0 "Order" rfl).2.2.2.2
theorem Txt.cl_Network (T : Txt w K mg) : Cls K (gA "Network" K) := (T.cls 1 "Network" rfl).1
theorem Txt.is_Network (T : Txt w K mg) : IsiOf K (gA "Network" K) := (T.cls 1 "Network" rfl).2.1
theorem Txt.mk_Network (T : Txt w K mg) : Mk K (gA "Network" K) (mA "Network" "__init__" K) := (T.cls 1 "Network" rfl).2.2.1
theorem Txt.ne_Network (T : Txt w K mg) : PySem.W.findIn K (.ref (gA "Network" K)) "__ne__" = some (some (.builtin "object.__ne__")) := (T.cls 1 "Network" rfl).2.2.2.1
theorem Txt.sf_Network (T : Txt w K mg) : PySem.W.selfFirst K (gA "Network" K) = true := (T.cls 1 "Network" rfl).2.2.2.2
theorem Txt.cl_Ring (T : Txt w K mg) : Cls K (gA "Ring" K) := (T.cls 2 "Ring" rfl).1
theorem Txt.is_Ring (T : Txt w K mg) : IsiOf K (gA "Ring" K) := (T.cls 2 "Ring" rfl).2.1
theorem Txt.mk_Ring (T : Txt w K mg) : Mk K (gA "Ring" K) (mA "Ring" "__init__" K) := (T.cls 2 "Ring" rfl).2.2.1
theorem Txt.ne_Ring (T : Txt w K mg) : PySem.W.findIn K (.ref (gA "Ring" K)) "__ne__" = some (some (.builtin "object.__ne__")) := (T.cls 2 "Ring" rfl).2.2.2.1
theorem Txt.sf_Ring (T : Txt w K mg) : PySem.W.selfFirst K (gA "Ring" K) = true := (T.cls 2 "Ring" rfl).2.2.2.2
theorem Txt.cl_Bench (T : Txt w K mg) : Cls K (gA "Bench" K) := (T.cls 3 "Bench" rfl).1
theorem Txt.is_Bench (T : Txt w K mg) : IsiOf K (gA "Bench" K) := (T.cls 3 "Bench" rfl).2.1
theorem Txt.mk_Bench (T : Txt w K mg) : Mk K (gA "Bench" K) (mA "Bench" "__init__" K) := (T.cls 3 "Bench" rfl).2.2.1
theorem Txt.ne_Bench (T : Txt w K mg) : PySem.W.findIn K (.ref (gA "Bench" K)) "__ne__" = some (some (.builtin "object.__ne__")) := (T.cls 3 "Bench" rfl).2.2.2.1
theorem Txt.sf_Bench (T : Txt w K mg) : PySem.W.selfFirst K (gA "Bench" K) = true := (T.cls 3 "Bench" rfl).2.2.2.2
theorem Txt.n_Order_entries (T : Txt w K mg) : NoAttr K (gA "Order" K) "entries" := T.noat 0 ("Order", "entries") rfl
theorem Txt.n_Network_bits (T : Txt w K mg) : NoAttr K (gA "Network" K) "bits" := T.noat 1 ("Network", "bits") rfl
theorem Txt.n_Network_joins (T : Txt w K mg) : NoAttr K (gA "Network" K) "joins" := T.noat 2 ("Network", "joins") rfl
theorem Txt.n_Network_ends (T : Txt w K mg) : NoAttr K (gA "Network" K) "ends" := T.noat 3 ("Network", "ends") rfl
theorem Txt.n_Network_held (T : Txt w K mg) : NoAttr K (gA "Network" K) "held" := T.noat 4 ("Network", "held") rfl
theorem Txt.n_Ring_bits (T : Txt w K mg) : NoAttr K (gA "Ring" K) "bits" := T.noat 5 ("Ring", "bits") rfl
theorem Txt.n_Ring_joins (T : Txt w K mg) : NoAttr K (gA "Ring" K) "joins" := T.noat 6 ("Ring", "joins") rfl
theorem Txt.n_Ring_ends (T : Txt w K mg) : NoAttr K (gA "Ring" K) "ends" := T.noat 7 ("Ring", "ends") rfl
theorem Txt.n_Ring_held (T : Txt w K mg) : NoAttr K (gA "Ring" K) "held" := T.noat 8 ("Ring", "held") rfl
theorem Txt.n_Bench_net (T : Txt w K mg) : NoAttr K (gA "Bench" K) "net" := T.noat 9 ("Bench", "net") rfl
theorem Txt.n_Bench_past (T : Txt w K mg) : NoAttr K (gA "Bench" K) "past" := T.noat 10 ("Bench", "past") rfl
theorem Txt.n_Bench_ahead (T : Txt w K mg) : NoAttr K (gA "Bench" K) "ahead" := T.noat 11 ("Bench", "ahead") rfl
theorem Txt.n_Bench_marked (T : Txt w K mg) : NoAttr K (gA "Bench" K) "marked" := T.noat 12 ("Bench", "marked") rfl
theorem Txt.m_Order_eq (T : Txt w K mg) : Meth K (gA "Order" K) "__eq__" (mA "Order" "__eq__" K) := T.meth 0 ("Order", "__eq__") rfl
theorem Txt.m_Order_add (T : Txt w K mg) : Meth K (gA "Order" K) "__add__" (mA "Order" "__add__" K) := T.meth 1 ("Order", "__add__") rfl
theorem Txt.m_Network_need_node (T : Txt w K mg) : Meth K (gA "Network" K) "need_node" (mA "Network" "need_node" K) := T.meth 2 ("Network", "need_node") rfl
theorem Txt.m_Network_need_trial (T : Txt w K mg) : Meth K (gA "Network" K) "need_trial" (mA "Network" "need_trial" K) := T.meth 3 ("Network", "need_trial") rfl
theorem Txt.m_Network_held_states (T : Txt w K mg) : Meth K (gA "Network" K) "held_states" (mA "Network" "held_states" K) := T.meth 4 ("Network", "held_states") rfl
theorem Txt.m_Network_carries (T : Txt w K mg) : Meth K (gA "Network" K) "carries" (mA "Network" "carries" K) := T.meth 5 ("Network", "carries") rfl
theorem Txt.m_Network_len (T : Txt w K mg) : Meth K (gA "Network" K) "__len__" (mA "Network" "__len__" K) := T.meth 6 ("Network", "__len__") rfl
theorem Txt.m_Network_eq (T : Txt w K mg) : Meth K (gA "Network" K) "__eq__" (mA "Network" "__eq__" K) := T.meth 7 ("Network", "__eq__") rfl
theorem Txt.m_Ring_need_node (T : Txt w K mg) : Meth K (gA "Ring" K) "need_node" (mA "Ring" "need_node" K) := T.meth 8 ("Ring", "need_node") rfl
theorem Txt.m_Ring_need_trial (T : Txt w K mg) : Meth K (gA "Ring" K) "need_trial" (mA "Ring" "need_trial" K) := T.meth 9 ("Ring", "need_trial") rfl
theorem Txt.m_Ring_held_states (T : Txt w K mg) : Meth K (gA "Ring" K) "held_states" (mA "Ring" "held_states" K) := T.meth 10 ("Ring", "held_states") rfl
theorem Txt.m_Ring_carries (T : Txt w K mg) : Meth K (gA "Ring" K) "carries" (mA "Ring" "carries" K) := T.meth 11 ("Ring", "carries") rfl
theorem Txt.m_Ring_len (T : Txt w K mg) : Meth K (gA "Ring" K) "__len__" (mA "Ring" "__len__" K) := T.meth 12 ("Ring", "__len__") rfl
theorem Txt.m_Ring_eq (T : Txt w K mg) : Meth K (gA "Ring" K) "__eq__" (mA "Ring" "__eq__" K) := T.meth 13 ("Ring", "__eq__") rfl
theorem Txt.m_Bench_settle (T : Txt w K mg) : Meth K (gA "Bench" K) "settle" (mA "Bench" "settle" K) := T.meth 14 ("Bench", "settle") rfl
theorem Txt.m_Bench_apply (T : Txt w K mg) : Meth K (gA "Bench" K) "apply" (mA "Bench" "apply" K) := T.meth 15 ("Bench", "apply") rfl
theorem Txt.m_Bench_undo (T : Txt w K mg) : Meth K (gA "Bench" K) "undo" (mA "Bench" "undo" K) := T.meth 16 ("Bench", "undo") rfl
theorem Txt.m_Bench_redo (T : Txt w K mg) : Meth K (gA "Bench" K) "redo" (mA "Bench" "redo" K) := T.meth 17 ("Bench", "redo") rfl
theorem Txt.m_Bench_mark (T : Txt w K mg) : Meth K (gA "Bench" K) "mark" (mA "Bench" "mark" K) := T.meth 18 ("Bench", "mark") rfl
theorem Txt.m_Bench_back_to (T : Txt w K mg) : Meth K (gA "Bench" K) "back_to" (mA "Bench" "back_to" K) := T.meth 19 ("Bench", "back_to") rfl
theorem Txt.p_Order_positions (T : Txt w K mg) : PropOf K (gA "Order" K) "positions" (mA "Order" "positions" K) (pA "Order" "positions" K) := T.prop 0 ("Order", "positions") rfl
theorem Txt.p_Network_size (T : Txt w K mg) : PropOf K (gA "Network" K) "size" (mA "Network" "size" K) (pA "Network" "size" K) := T.prop 1 ("Network", "size") rfl
theorem Txt.p_Network_cells (T : Txt w K mg) : PropOf K (gA "Network" K) "cells" (mA "Network" "cells" K) (pA "Network" "cells" K) := T.prop 2 ("Network", "cells") rfl
theorem Txt.p_Network_outputs (T : Txt w K mg) : PropOf K (gA "Network" K) "outputs" (mA "Network" "outputs" K) (pA "Network" "outputs" K) := T.prop 3 ("Network", "outputs") rfl
theorem Txt.p_Network_orders (T : Txt w K mg) : PropOf K (gA "Network" K) "orders" (mA "Network" "orders" K) (pA "Network" "orders" K) := T.prop 4 ("Network", "orders") rfl
theorem Txt.p_Ring_size (T : Txt w K mg) : PropOf K (gA "Ring" K) "size" (mA "Ring" "size" K) (pA "Ring" "size" K) := T.prop 5 ("Ring", "size") rfl
theorem Txt.p_Ring_cells (T : Txt w K mg) : PropOf K (gA "Ring" K) "cells" (mA "Ring" "cells" K) (pA "Ring" "cells" K) := T.prop 6 ("Ring", "cells") rfl
theorem Txt.p_Ring_outputs (T : Txt w K mg) : PropOf K (gA "Ring" K) "outputs" (mA "Ring" "outputs" K) (pA "Ring" "outputs" K) := T.prop 7 ("Ring", "outputs") rfl
theorem Txt.p_Ring_orders (T : Txt w K mg) : PropOf K (gA "Ring" K) "orders" (mA "Ring" "orders" K) (pA "Ring" "orders" K) := T.prop 8 ("Ring", "orders") rfl
theorem Txt.p_Bench_network (T : Txt w K mg) : PropOf K (gA "Bench" K) "network" (mA "Bench" "network" K) (pA "Bench" "network" K) := T.prop 9 ("Bench", "network") rfl
theorem Txt.v_Order_GREATEST (T : Txt w K mg) : ∃ u, Con K (gA "Order" K) "GREATEST" (.int 24) u := T.con 0 ("Order", "GREATEST", .int 24) rfl
theorem Txt.v_Network_LEAST_BITS (T : Txt w K mg) : ∃ u, Con K (gA "Network" K) "LEAST_BITS" (.int 1) u := T.con 1 ("Network", "LEAST_BITS", .int 1) rfl
theorem Txt.v_Network_MOST_BITS (T : Txt w K mg) : ∃ u, Con K (gA "Network" K) "MOST_BITS" (.int 24) u := T.con 2 ("Network", "MOST_BITS", .int 24) rfl
theorem Txt.v_Network_LOWEST (T : Txt w K mg) : ∃ u, Con K (gA "Network" K) "LOWEST" (.int 0) u := T.con 3 ("Network", "LOWEST", .int 0) rfl
theorem Txt.v_Network_KIND (T : Txt w K mg) : ∃ u, Con K (gA "Network" K) "KIND" (.str "adder") u := T.con 4 ("Network", "KIND", .str "adder") rfl
theorem Txt.v_Ring_LEAST_BITS (T : Txt w K mg) : ∃ u, Con K (gA "Ring" K) "LEAST_BITS" (.int 2) u := T.con 5 ("Ring", "LEAST_BITS", .int 2) rfl
theorem Txt.v_Ring_MOST_BITS (T : Txt w K mg) : ∃ u, Con K (gA "Ring" K) "MOST_BITS" (.int 24) u := T.con 6 ("Ring", "MOST_BITS", .int 24) rfl
theorem Txt.v_Ring_LOWEST (T : Txt w K mg) : ∃ u, Con K (gA "Ring" K) "LOWEST" (.int 1) u := T.con 7 ("Ring", "LOWEST", .int 1) rfl
theorem Txt.v_Ring_KIND (T : Txt w K mg) : ∃ u, Con K (gA "Ring" K) "KIND" (.str "ring") u := T.con 8 ("Ring", "KIND", .str "ring") rfl
theorem Txt.i_Order_Order (T : Txt w K mg) : PySem.W.kitOne K (.ref (gA "Order" K)) (.ref (gA "Order" K)) = some true := T.isi 0 ("Order", "Order", true) rfl
theorem Txt.i_Network_Network (T : Txt w K mg) : PySem.W.kitOne K (.ref (gA "Network" K)) (.ref (gA "Network" K)) = some true := T.isi 1 ("Network", "Network", true) rfl
theorem Txt.i_Ring_Network (T : Txt w K mg) : PySem.W.kitOne K (.ref (gA "Ring" K)) (.ref (gA "Network" K)) = some true := T.isi 2 ("Ring", "Network", true) rfl
end

/-- the class of an adder, of a ring -/
def gN (r : Bool) (K : PySem.W.Frag) : Addr := match r with
  | true => gA "Ring" K
  | false => gA "Network" K
def mN (r : Bool) (m : Str) (K : PySem.W.Frag) : Addr := match r with
  | true => mA "Ring" m K
  | false => mA "Network" m K
def pN (r : Bool) (m : Str) (K : PySem.W.Frag) : Addr := match r with
  | true => pA "Ring" m K
  | false => pA "Network" m K
/-- the property's record -/
def qN (r : Bool) (m : Str) (K : PySem.W.Frag) : Addr := mN r m K
section
variable {w : World} {K : PySem.W.Frag} {mg : Str → Option Value}

theorem Txt.cl_N (T : Txt w K mg) (r : Bool) : Cls K (gN r K) := by cases r; exact T.cl_Network; exact T.cl_Ring
theorem Txt.is_N (T : Txt w K mg) (r : Bool) : IsiOf K (gN r K) := by cases r; exact T.is_Network; exact T.is_Ring
theorem Txt.mk_N (T : Txt w K mg) (r : Bool) : Mk K (gN r K) (mN r "__init__" K) := by cases r; exact T.mk_Network; exact T.mk_Ring
theorem Txt.ne_N (T : Txt w K mg) (r : Bool) : PySem.W.findIn K (.ref (gN r K)) "__ne__" = some (some (.builtin "object.__ne__")) := by cases r; exact T.ne_Network; exact T.ne_Ring
theorem Txt.i_N (T : Txt w K mg) (r : Bool) : PySem.W.kitOne K (.ref (gN r K)) (.ref (gA "Network" K)) = some true := by cases r; exact T.i_Network_Network; exact T.i_Ring_Network
theorem Txt.n_N_bits (T : Txt w K mg) (r : Bool) : NoAttr K (gN r K) "bits" := by cases r; exact T.n_Network_bits; exact T.n_Ring_bits
theorem Txt.n_N_joins (T : Txt w K mg) (r : Bool) : NoAttr K (gN r K) "joins" := by cases r; exact T.n_Network_joins; exact T.n_Ring_joins
theorem Txt.n_N_ends (T : Txt w K mg) (r : Bool) : NoAttr K (gN r K) "ends" := by cases r; exact T.n_Network_ends; exact T.n_Ring_ends
theorem Txt.n_N_held (T : Txt w K mg) (r : Bool) : NoAttr K (gN r K) "held" := by cases r; exact T.n_Network_held; exact T.n_Ring_held
theorem Txt.m_N_need_node (T : Txt w K mg) (r : Bool) : Meth K (gN r K) "need_node" (mN r "need_node" K) := by cases r; exact T.m_Network_need_node; exact T.m_Ring_need_node
theorem Txt.m_N_need_trial (T : Txt w K mg) (r : Bool) : Meth K (gN r K) "need_trial" (mN r "need_trial" K) := by cases r; exact T.m_Network_need_trial; exact T.m_Ring_need_trial
theorem Txt.m_N_held_states (T : Txt w K mg) (r : Bool) : Meth K (gN r K) "held_states" (mN r "held_states" K) := by cases r; exact T.m_Network_held_states; exact T.m_Ring_held_states
theorem Txt.m_N_carries (T : Txt w K mg) (r : Bool) : Meth K (gN r K) "carries" (mN r "carries" K) := by cases r; exact T.m_Network_carries; exact T.m_Ring_carries
theorem Txt.m_N_len (T : Txt w K mg) (r : Bool) : Meth K (gN r K) "__len__" (mN r "__len__" K) := by cases r; exact T.m_Network_len; exact T.m_Ring_len
theorem Txt.m_N_eq (T : Txt w K mg) (r : Bool) : Meth K (gN r K) "__eq__" (mN r "__eq__" K) := by cases r; exact T.m_Network_eq; exact T.m_Ring_eq
theorem Txt.p_N_size (T : Txt w K mg) (r : Bool) : PropOf K (gN r K) "size" (qN r "size" K) (pN r "size" K) := by cases r; exact T.p_Network_size; exact T.p_Ring_size
theorem Txt.p_N_cells (T : Txt w K mg) (r : Bool) : PropOf K (gN r K) "cells" (qN r "cells" K) (pN r "cells" K) := by cases r; exact T.p_Network_cells; exact T.p_Ring_cells
theorem Txt.p_N_outputs (T : Txt w K mg) (r : Bool) : PropOf K (gN r K) "outputs" (qN r "outputs" K) (pN r "outputs" K) := by cases r; exact T.p_Network_outputs; exact T.p_Ring_outputs
theorem Txt.p_N_orders (T : Txt w K mg) (r : Bool) : PropOf K (gN r K) "orders" (qN r "orders" K) (pN r "orders" K) := by cases r; exact T.p_Network_orders; exact T.p_Ring_orders
theorem Txt.v_N_LEAST_BITS (T : Txt w K mg) (r : Bool) : ∃ u, Con K (gN r K) "LEAST_BITS" (.int (if r then 2 else 1)) u := by cases r; exact T.v_Network_LEAST_BITS; exact T.v_Ring_LEAST_BITS
theorem Txt.v_N_MOST_BITS (T : Txt w K mg) (r : Bool) : ∃ u, Con K (gN r K) "MOST_BITS" (.int 24) u := by cases r; exact T.v_Network_MOST_BITS; exact T.v_Ring_MOST_BITS
theorem Txt.v_N_LOWEST (T : Txt w K mg) (r : Bool) : ∃ u, Con K (gN r K) "LOWEST" (.int (if r then 1 else 0)) u := by cases r; exact T.v_Network_LOWEST; exact T.v_Ring_LOWEST
theorem Txt.v_N_KIND (T : Txt w K mg) (r : Bool) : ∃ u, Con K (gN r K) "KIND" (.str (if r then "ring" else "adder")) u := by cases r; exact T.v_Network_KIND; exact T.v_Ring_KIND
theorem Txt.f_N_init (T : Txt w K mg) (r : Bool) : ∃ fd, FunD K "__init__" "Network.__init__" (defArgs s_Network_init) (defBody s_Network_init) (defScope s_Network_init) [] [] (mN r "__init__" K) fd := by cases r; exact T.f_Network_init; exact T.f_Ring_init
theorem Txt.f_N_need_node (T : Txt w K mg) (r : Bool) : ∃ fd, FunD K "need_node" "Network.need_node" (defArgs s_Network_need_node) (defBody s_Network_need_node) (defScope s_Network_need_node) [] [] (mN r "need_node" K) fd := by cases r; exact T.f_Network_need_node; exact T.f_Ring_need_node
theorem Txt.f_N_held_states (T : Txt w K mg) (r : Bool) : ∃ fd, FunD K "held_states" "Network.held_states" (defArgs s_Network_held_states) (defBody s_Network_held_states) (defScope s_Network_held_states) [] [] (mN r "held_states" K) fd := by cases r; exact T.f_Network_held_states; exact T.f_Ring_held_states
theorem Txt.f_N_carries (T : Txt w K mg) (r : Bool) : ∃ fd, FunD K "carries" "Network.carries" (defArgs s_Network_carries) (defBody s_Network_carries) (defScope s_Network_carries) [] [] (mN r "carries" K) fd := by cases r; exact T.f_Network_carries; exact T.f_Ring_carries
theorem Txt.f_N_len (T : Txt w K mg) (r : Bool) : ∃ fd, FunD K "__len__" "Network.__len__" (defArgs s_Network_len) (defBody s_Network_len) (defScope s_Network_len) [] [] (mN r "__len__" K) fd := by cases r; exact T.f_Network_len; exact T.f_Ring_len
theorem Txt.f_N_eq (T : Txt w K mg) (r : Bool) : ∃ fd, FunD K "__eq__" "Network.__eq__" (defArgs s_Network_eq) (defBody s_Network_eq) (defScope s_Network_eq) [] [] (mN r "__eq__" K) fd := by cases r; exact T.f_Network_eq; exact T.f_Ring_eq
theorem Txt.f_N_size (T : Txt w K mg) (r : Bool) : ∃ fd, FunD K "size" "Network.size" (defArgs s_Network_size) (defBody s_Network_size) (defScope s_Network_size) [] [] (pN r "size" K) fd := by cases r; exact T.f_Network_size; exact T.f_Ring_size
theorem Txt.f_N_cells (T : Txt w K mg) (r : Bool) : ∃ fd, FunD K "cells" "Network.cells" (defArgs s_Network_cells) (defBody s_Network_cells) (defScope s_Network_cells) [] [] (pN r "cells" K) fd := by cases r; exact T.f_Network_cells; exact T.f_Ring_cells
theorem Txt.f_N_outputs (T : Txt w K mg) (r : Bool) : ∃ fd, FunD K "outputs" "Network.outputs" (defArgs s_Network_outputs) (defBody s_Network_outputs) (defScope s_Network_outputs) [] [] (pN r "outputs" K) fd := by cases r; exact T.f_Network_outputs; exact T.f_Ring_outputs
theorem Txt.f_N_orders (T : Txt w K mg) (r : Bool) : ∃ fd, FunD K "orders" "Network.orders" (defArgs s_Network_orders) (defBody s_Network_orders) (defScope s_Network_orders) [] [] (pN r "orders" K) fd := by cases r; exact T.f_Network_orders; exact T.f_Ring_orders
end
end Cp
/-! What the head looks at: facts by names, a Hook. -/
namespace Cp
open PySem PySem.Spec PyProof.Rows L2
section
open PySem.W He
def isiB (K : Frag) (C : Addr) : Bool := eqO (findIn K (.ref C) "__class__") (some (some (.builtin "object.__class__"))) && (eqO (specialIn K (.builtin "object.__class__") "__get__") (some (some (.builtin "getset_descriptor.__get__"))) &&
  (decide (takesIn K (.builtin "object.__class__") = some true) && decide (mroIn K C (.type "object") = some true)))
def propB (K : Frag) (C : Addr) (m : PySem.Str) : Bool := eqO (findIn K (.ref C) m) (some (some (.ref (ma K C m)))) && (eqO (specialIn K (.ref (ma K C m)) "__get__") (some (some (.builtin "property.__get__"))) &&
  (decide (takesIn K (.ref (ma K C m)) = some true) && (match recIn K (ma K C m) "property" with
    | some (.ref _ :: _) => true
    | _ => false)))
def kindB (K : Frag) (C : Addr) (mc : Value) (f : PySem.Str) (v : L2.V) : Bool := match findCls K (.ref C) mc f with
  | some (.val u) => relB v u
  | _ => false
def readB (K : Frag) (C : Addr) (mc : Value) : Bool := readsIn K C mc && eqO (specialIn K (.ref C) "__getattribute__") (some (some (.builtin "type.__getattribute__")))
def partL : List (PySem.Str × Dv) := [("rewire", .int 3), ("add", .int 3), ("drop", .int 2), ("merge", .int 3), ("change", .int 2)]
def bGlo (K : Frag) : Bool := gloL.all (fun x => (Fa.glo x).ok K && (Fa.keep x).ok K) && (freeL.all (fun x => (Fa.free x).ok K) && (strL.all (fun q => (Fa.str q.1 q.2).ok K) && (intL.all (fun q => (Fa.int q.1 q.2).ok K) &&
  ((Fa.glo "STATES").ok K && (tupB K "STATES" [.str "G", .str "K", .str "P"] && ((Fa.glo "PARTS").ok K && valsB K (ga K "PARTS") partL))))))
def bCls (K : Frag) : Bool := clsL.all (fun x => (Fa.cls x).ok K && (isiB K (ga K x) && ((Fa.mkr x).ok K && (eqO (findIn K (.ref (ga K x)) "__ne__") (some (some (.builtin "object.__ne__"))) && selfFirst K (ga K x))))) &&
  (noatL.all (fun q => (Fa.noat q.1 q.2).ok K) && (methL.all (fun q => (Fa.meth q.1 q.2).ok K) && (propL.all (fun q => propB K (ga K q.1) q.2) && (conL.all (fun q => conB K q.1 q.2.1 q.2.2 && !(copiedNames.contains q.2.1)) &&
  (isiL.all (fun q => decide (kitOne K (.ref (ga K q.1)) (.ref (ga K q.2.1)) = some q.2.2)) && (kindB K (ga K "Ring") (.type "type") "KIND" (.str "ring") && readB K (ga K "Ring") (.type "type")))))))
/-- the code's own name (compared beside the rest, as it stands) -/
def codeNm (K : Frag) (cd : Value) : Option PySem.Str := match cd with
  | .ref c => (match K.lookup c with
    | some ⟨_, _, .fields vs, _⟩ => (match vs.toList with
      | _ :: .str n _ :: _ => some n
      | _ => none)
    | _ => none)
  | _ => none
def dokB (K : Frag) (d : He5.DefA) : Bool := match K.lookup (d.at_ K) with
  | some ⟨_, _, .func fd, _⟩ => dflB K fd.defaults (d.dvs K) && kwdB K fd.kwdefaults (d.kws K)
  | _ => false
def cnm (K : Frag) (d : He5.DefA) : Option PySem.Str := match K.lookup (d.at_ K) with
  | some ⟨_, _, .func fd, _⟩ => codeNm K fd.code
  | _ => none
theorem codeNm_ok {K : Frag} {cd : Value} {q : PySem.Str} (h : codeNm K cd = some q) : codeIn K cd q = true := by
  unfold codeNm at h
  unfold codeIn
  split at h
  · split at h
    · rename_i vs _ hk
      dsimp only
      rw [hk]
      dsimp only
      split at h
      · rename_i n t r hv
        cases h
        rw [hv]
        exact beq_self_eq_true q
      · cases h
    · cases h
  · cases h
theorem dok_of {K : Frag} {d : He5.DefA} (h1 : dokB K d = true) (h2 : cnm K d = some d.qual) : d.ok K = true := by
  unfold dokB at h1
  unfold cnm at h2
  unfold He5.DefA.ok
  split at h1
  · rename_i fd _ hk
    rw [hk] at h2
    have h2 : codeNm K fd.code = some d.qual := h2
    have kp : keepIn K (.ref (d.at_ K)) = true := by
      unfold keepIn
      dsimp only
      rw [hk]
    rw [kp, hk]
    show (true && (codeIn K fd.code d.qual && (dflB K fd.defaults (d.dvs K) && kwdB K fd.kwdefaults (d.kws K)))) = true
    rw [codeNm_ok h2, h1]
    rfl
  · cases h1
/-- the defs: that they stand well, what they are -/
abbrev AlF : Type := Bool × List FnW × List (Option PySem.Str)
def bFn (K : Frag) : AlF := (fnL.all (dokB K), fnL.map (fun d => He5.fnA K (d.at_ K)), fnL.map (cnm K))
def vFn : AlF := (true, fnL.map He5.DefA.val, fnL.map fun d => some d.qual)
abbrev AlC : Type := Bool × Bool × AlF × Option (List (Option (PySem.Str × Int)))
def partK : List PySem.Str := ["rewire", "add", "drop", "merge", "change"]
def obsK (K : Frag) : AlC := (bGlo K, bCls K, bFn K, dicW K (ga K "PARTS"))
def valK (w : World) : AlC := (true, true, vFn, some (keysIn w.params partK))
theorem prop_of {K : Frag} {C : Addr} {m : PySem.Str} (h : propB K C m = true) : PropOf K C m (ma K C m) (pgA K C m) := by
  obtain ⟨h1, h⟩ := ba h
  obtain ⟨h2, h⟩ := ba h
  obtain ⟨h3, h4⟩ := ba h
  refine ⟨eqO_ok h1, eqO_ok h2, of_decide_eq_true h3, ?_⟩
  unfold pgA
  split at h4
  · rename_i f r e
    exact ⟨r, by rw [e]⟩
  · cases h4
theorem kind_of {K : Frag} {C : Addr} {mc : Value} {f : PySem.Str} {v : L2.V} (h : kindB K C mc f v = true) : ∃ u, ClX.CVal K C mc f v u := by
  unfold kindB at h
  split at h
  · rename_i u e
    exact ⟨u, e, relB_ok h⟩
  · cases h
theorem isi_of {K : Frag} {C : Addr} (h : isiB K C = true) : IsiOf K C := by
  obtain ⟨h1, h⟩ := ba h
  obtain ⟨h2, h⟩ := ba h
  obtain ⟨h3, h4⟩ := ba h
  exact ⟨eqO_ok h1, eqO_ok h2, of_decide_eq_true h3, of_decide_eq_true h4⟩
theorem all_at {α : Type} {l : List α} {p : α → Bool} (h : l.all p = true) {i : Nat} {x : α} (e : l[i]? = some x) : p x = true := List.all_eq_true.mp h x (List.mem_of_getElem? e)
theorem txt_of {w : World} {K : Frag} {h : Heap} {mg : PySem.Str → Option Value} (X : K.In h) (G : h.Ns mainGlobals mg) (c : obsK K = valK w) : Txt w K mg := by
  have c1 : bGlo K = true := congrArg (fun z : AlC => z.1) c
  have c2 : bCls K = true := congrArg (fun z : AlC => z.2.1) c
  have c3 : fnL.all (dokB K) = true := congrArg (fun z : AlC => z.2.2.1.1) c
  have c4 : fnL.map (fun d => He5.fnA K (d.at_ K)) = fnL.map He5.DefA.val := congrArg (fun z : AlC => z.2.2.1.2.1) c
  have c6 : fnL.map (cnm K) = fnL.map fun d => some d.qual := congrArg (fun z : AlC => z.2.2.1.2.2) c
  have c5 : dicW K (ga K "PARTS") = some (keysIn w.params partK) := congrArg (fun z : AlC => z.2.2.2) c
  obtain ⟨g1, c1⟩ := ba c1
  obtain ⟨g2, c1⟩ := ba c1
  obtain ⟨g3, c1⟩ := ba c1
  obtain ⟨g4, c1⟩ := ba c1
  obtain ⟨g5, c1⟩ := ba c1
  obtain ⟨g6, c1⟩ := ba c1
  obtain ⟨g7, g8⟩ := ba c1
  obtain ⟨k1, c2⟩ := ba c2
  obtain ⟨k2, c2⟩ := ba c2
  obtain ⟨k3, c2⟩ := ba c2
  obtain ⟨k4, c2⟩ := ba c2
  obtain ⟨k5, c2⟩ := ba c2
  obtain ⟨k6, c2⟩ := ba c2
  obtain ⟨k7, k8⟩ := ba c2
  obtain ⟨k9, k10⟩ := ba k8
  refine ⟨fun i d e => ?_, fun i x e => ?_, fun i x e => free_ok X G (all_at g2 e), fun i q e => str_ok X G (all_at g3 e), fun i q e => int_ok X G (all_at g4 e), fun i x e => ?_, fun i q e => noat_ok (all_at k2 e), fun i q e => meth_ok (all_at k3 e), fun i q e => prop_of (all_at k4 e), fun i q e => ?_, fun i q e => of_decide_eq_true (all_at k6 e), kind_of k7, ⟨k9, eqO_ok k10⟩, ⟨glo_ok X G g5, fun H => tupB_ok g6 H⟩, ⟨glo_ok X G g7, dicW_ok c5⟩, fun q hq => ?_⟩
  · have e2 : (fnL.map fun d => He5.fnA K (d.at_ K))[i]? = (fnL.map He5.DefA.val)[i]? := by rw [c4]
    rw [List.getElem?_map, List.getElem?_map, e] at e2
    have e3 : (fnL.map (cnm K))[i]? = (fnL.map fun d => some d.qual)[i]? := by rw [c6]
    rw [List.getElem?_map, List.getElem?_map, e] at e3
    exact He5.DefA.funD (Option.some.inj e2) (dok_of (all_at c3 e) (Option.some.inj e3))
  · obtain ⟨a1, a2⟩ := ba (all_at g1 e)
    exact ⟨glo_ok X G a1, keep_ok a2⟩
  · obtain ⟨a1, a⟩ := ba (all_at k1 e)
    obtain ⟨a2, a⟩ := ba a
    obtain ⟨a3, a⟩ := ba a
    obtain ⟨a4, a5⟩ := ba a
    exact ⟨cls_ok a1, isi_of a2, mkr_ok a3, eqO_ok a4, a5⟩
  · obtain ⟨a1, a2⟩ := ba (all_at k5 e)
    exact conB_ok a1 (by simpa using a2)
  · have hp : ∀ q ∈ ([("rewire", 3), ("add", 3), ("drop", 2), ("merge", 3), ("change", 2)] : List (PySem.Str × Int)), (q.1, Dv.int q.2) ∈ partL := by
      intro q hq
      simp only [List.mem_cons, List.not_mem_nil, or_false] at hq
      rcases hq with rfl | rfl | rfl | rfl | rfl <;> simp [partL]
    exact valsB_ok g8 (hp q hq)
/-! ### the Hook -/
def refs2 (g : Addr → Option Obj) (a : Addr) : List Addr := match g a with
  | some o => refsD o
  | none => []
def nmK2 : List PySem.Str := ["STATES", "PARTS"]
def nmK : List PySem.Str := gloL ++ nmK2
def iniL : List (PySem.Str × PySem.Str) := clsL.map fun c => (c, "__init__")
def nsOf (g : Addr → Option Obj) (a : Addr) : Addr := match g a with
  | some ⟨_, _, .cls cd, _⟩ => cd.ns
  | _ => 0
/-- the addresses that are looked at: the module's names, the classes' tables, methods, properties, getters, their codes -/
def asC (g : Addr → Option Obj) : List Addr :=
  (fun l1 => (fun cs => (fun K1 => (fun lm => (fun lg => mainGlobals :: cStatics :: (cs ++ cs.map (nsOf g)) ++ l1 ++ lm ++ lg ++ (l1 ++ lm ++ lg).flatMap (refs2 g))
    (propL.flatMap fun q => refs2 g (ma K1 (ga K1 q.1) q.2)))
    ((iniL ++ methL ++ propL).map fun q => ma K1 (ga K1 q.1) q.2))
    (frG g (mainGlobals :: (cs ++ cs.map (nsOf g)))))
    (clsL.map (ga (frG g [mainGlobals]))))
    (nmK.map (ga (frG g [mainGlobals])))
def kC (g : Addr → Option Obj) : Frag := frG g (asC g)
def hookC : Hook where
  α := AlC
  obs := fun s => obsK (kC s.heap.get?)
  val := valK
  says := fun w h => ∃ K : Frag, K.In h ∧ obsK K = valK w
  of := fun _ _ e => ⟨_, frG_in, e⟩
  keeps := fun _ _ _ ⟨K, hK, c⟩ k => ⟨K, Frag.In.keeps hK k, c⟩
def obC (s : SharedT) : AlC := obsK (kC (HandSHeadRun.getT s))
theorem obC_eq (s : SharedT) : obC s = hookC.obs s.abs := by
  have e : HandSHeadRun.getT s = s.abs.heap.get? := funext (HandSHeadRun.getT_eq s)
  show obsK (kC (HandSHeadRun.getT s)) = obsK (kC s.abs.heap.get?)
  rw [e]
end
end Cp
set_option maxHeartbeats 0
/-! The run of the top. -/
namespace CpH
open PySem PySem.W PySem.Calls PyProof.Rows HandSHeadRun
abbrev R : OpenRow := OpenLaw.row PySem.Challenge.rw_carryprobe_k87_whole_changes_seen_in_tri
abbrev qv : Program := view R.prog [131]
def nm0 : List PySem.Str := ["_wall", "ProbeError", "InvalidSize", "InvalidNumber", "InvalidTrial", "InvalidPosition", "InvalidCells", "InvalidOutputs", "InvalidWire", "InvalidEdit", "InvalidText", "NotAlike", "InUse", "AbsentError"]
def nm1 : List PySem.Str := ["NoNode", "NoCell", "NoPlace", "NoMark", "NothingToUndo", "NothingToRedo", "TooMany", "MOST_BITS", "MOST_CELLS", "is_between", "is_row", "is_sequence", "GENERATE", "KILL"]
def nm2 : List PySem.Str := ["PASS", "STATES", "has_states", "is_trial", "is_ring_trial", "state_at", "trial_with", "carry_of", "is_state", "worth_of", "need_numbers", "need_carry", "bit_at", "states_of"]
def nm3 : List PySem.Str := ["trial_of", "ring_trial_of", "first_state", "first_ones", "Order", "is_cell", "checked_cells", "checked_outputs", "node_orders", "node_states", "sum_of", "RING", "FAULTY", "OUTPUTS"]
def nm4 : List PySem.Str := ["DIGITS", "MOST_DIGITS", "number_in", "lines_in", "head_in", "cell_in", "outputs_in", "network_parts", "ring_trials", "adder_trials", "trial_list", "standard_trials", "Network", "Ring"]
def nm5 : List PySem.Str := ["of_kind", "cell_nodes", "all_nodes", "inputs_of", "rebuilt", "merge", "UPPER", "LOWER", "OUTPUT", "is_wire", "need_wire", "highest_source", "rewired", "PARTS"]
def nm6 : List PySem.Str := ["is_edit", "with_cell", "without_cell", "edited", "recorded", "changed_outputs", "Bench", "zero_state", "telling_trial", "_law_tap", "_law_next", "_law_follow", "_law_orders", "_law_between"]
def nm7 : List PySem.Str := ["_law_rewired", "_law_added", "_law_without", "_law_dropped", "_law_merged", "_law_replaced", "_law_done", "_law_begun", "_law_wire", "_law_wish", "_law_net", "_law_tests", "_law_drawn", "_law_seen"]
def nm8 : List PySem.Str := ["_law_parting", "_law_told_right", "_law_step_right"]
def names : List PySem.Str := nm0 ++ nm1 ++ nm2 ++ nm3 ++ nm4 ++ nm5 ++ nm6 ++ nm7 ++ nm8
abbrev wF (w : World) (b : Bool) : World := w.withFollow "special-get-raises" b
noncomputable def EF (w : World) (os : OsState) : Option SharedT := endF (stepQ (denQ tabQ) R.prog w) 13000 R.prog w os
def kS (s : SharedT) : Frag := Cp.kC (getT s)
def partO (s : SharedT) : Bool × Option (List (Option (PySem.Str × Int))) := (Cp.bCls (kS s), He.dicW (kS s) (He.ga (kS s) "PARTS"))
def partP (s : SharedT) : Bool × Cp.AlF := (Cp.bGlo (kS s), Cp.bFn (kS s))
abbrev XtO (s : Shared) : Bool := xlAt qv [] s && recOk R.toRowW.records s
theorem runA_false (w : World) (os : OsState) : (EF (wF w false) os).map (fun s => looksF R.prog (boot_heap (wF w false).params) s.abs) = some (true) := by
  kernel_rfl
theorem runA_true (w : World) (os : OsState) : (EF (wF w true) os).map (fun s => looksF R.prog (boot_heap (wF w true).params) s.abs) = some (true) := by
  kernel_rfl
theorem runB_false (w : World) (os : OsState) : (EF (wF w false) os).map (fun s => seenQ qv names (importedModules R.prog.main.body) XtO s.abs) = some (openGood qv names) := by
  kernel_rfl
theorem runB_true (w : World) (os : OsState) : (EF (wF w true) os).map (fun s => seenQ qv names (importedModules R.prog.main.body) XtO s.abs) = some (openGood qv names) := by
  kernel_rfl
theorem runC_false (w : World) (os : OsState) : (EF (wF w false) os).map (fun s => partO s) = some ((true, some (He.keysIn (wF w false).params Cp.partK))) := by
  kernel_rfl
theorem runC_true (w : World) (os : OsState) : (EF (wF w true) os).map (fun s => partO s) = some ((true, some (He.keysIn (wF w true).params Cp.partK))) := by
  kernel_rfl
theorem runD_false (w : World) (os : OsState) : (EF (wF w false) os).map (fun s => partP s) = some ((true, Cp.vFn)) := by
  kernel_rfl
theorem runD_true (w : World) (os : OsState) : (EF (wF w true) os).map (fun s => partP s) = some ((true, Cp.vFn)) := by
  kernel_rfl
theorem map_two {a b c : Type} {x : Option a} {f : a → b} {g : a → c} {u : b} {v : c} (h1 : x.map f = some u) (h2 : x.map g = some v) : x.map (fun s => (f s, g s)) = some (u, v) := by
  cases x with
  | none => cases h1
  | some s =>
    cases h1
    cases h2
    rfl
theorem map_of {a b c : Type} {x : Option a} {f : a → b} {g : b → c} {h : a → c} {u : b} {v : c} (h1 : x.map f = some u) (hg : ∀ s, h s = g (f s)) (hv : v = g u) : x.map h = some v := by
  cases x with
  | none => cases h1
  | some s =>
    cases h1
    rw [hv]
    exact congrArg some (hg s)
theorem run_false (w : World) : RunEq R qv Cp.hookC Cp.obC 13000 names (wF w false) := by
  intro os
  have h := map_two (runA_false w os) (map_two (runB_false w os) (map_two (runC_false w os) (runD_false w os)))
  exact map_of (g := fun z : Bool × _ × (Bool × Option (List (Option (PySem.Str × Int)))) × (Bool × Cp.AlF) => (z.1, z.2.1, (z.2.2.2.1, z.2.2.1.1, z.2.2.2.2, z.2.2.1.2))) h (fun _ => rfl) rfl
theorem run_true (w : World) : RunEq R qv Cp.hookC Cp.obC 13000 names (wF w true) := by
  intro os
  have h := map_two (runA_true w os) (map_two (runB_true w os) (map_two (runC_true w os) (runD_true w os)))
  exact map_of (g := fun z : Bool × _ × (Bool × Option (List (Option (PySem.Str × Int)))) × (Bool × Cp.AlF) => (z.1, z.2.1, (z.2.2.2.1, z.2.2.1.1, z.2.2.2.2, z.2.2.1.2))) h (fun _ => rfl) rfl
theorem run (w : World) : RunEq R qv Cp.hookC Cp.obC 13000 names w := byRow2 "special-get-raises" (P := fun w => RunEq R qv Cp.hookC Cp.obC 13000 names w) run_false run_true w
end CpH
set_option maxHeartbeats 1000000
/-! The mathematics: networks, orders, states. Plain Lean. -/
namespace Cp
def low (r : Bool) : Nat := match r with
  | true => 1
  | false => 0
structure Net where
  n : Nat
  cs : List (Nat × Nat)
  os : List Nat
structure NetOk (r : Bool) (M : Net) : Prop where
  lo : 1 + low r ≤ M.n
  hi : M.n ≤ 24
  many : M.cs.length ≤ 150
  cell : ∀ k u l, M.cs[k]? = some (u, l) → low r ≤ u ∧ u ≤ M.n + k ∧ low r ≤ l ∧ l ≤ M.n + k
  outs : M.os.length = M.n + 1 - low r
  out : ∀ o ∈ M.os, low r ≤ o ∧ o ≤ M.n + M.cs.length
/-! ### lists -/
/-- item by item -/
def Rel2 {α β : Type} (R : α → β → Prop) (l : List α) (m : List β) : Prop := l.length = m.length ∧ ∀ (i : Nat) (a : α) (b : β), l[i]? = some a → m[i]? = some b → R a b
section
variable {α β : Type} {R S : α → β → Prop} {l : List α} {m : List β}
theorem Rel2.nil : Rel2 R [] [] := ⟨rfl, fun i a b h _ => by simp at h⟩
theorem Rel2.imp (h : Rel2 R l m) (f : ∀ a b, R a b → S a b) : Rel2 S l m := ⟨h.1, fun i a b h1 h2 => f a b (h.2 i a b h1 h2)⟩
theorem Rel2.get (h : Rel2 R l m) {i : Nat} {b : β} (e : m[i]? = some b) : ∃ a, l[i]? = some a ∧ R a b := by
  have hl : i < l.length := by rw [h.1]; exact (List.getElem?_eq_some_iff.mp e).1
  exact ⟨l[i], List.getElem?_eq_getElem hl, h.2 i _ b (List.getElem?_eq_getElem hl) e⟩
theorem Rel2.get' (h : Rel2 R l m) {i : Nat} {a : α} (e : l[i]? = some a) : ∃ b, m[i]? = some b ∧ R a b := by
  have hl : i < m.length := by rw [← h.1]; exact (List.getElem?_eq_some_iff.mp e).1
  exact ⟨m[i], List.getElem?_eq_getElem hl, h.2 i a _ e (List.getElem?_eq_getElem hl)⟩
theorem Rel2.snoc (h : Rel2 R l m) {a : α} {b : β} (r : R a b) : Rel2 R (l ++ [a]) (m ++ [b]) := by
  refine ⟨by simp [h.1], fun i x y h1 h2 => ?_⟩
  by_cases hi : i < l.length
  · rw [List.getElem?_append_left hi] at h1
    rw [List.getElem?_append_left (by rw [← h.1]; exact hi)] at h2
    exact h.2 i x y h1 h2
  · rw [List.getElem?_append_right (by omega)] at h1
    rw [List.getElem?_append_right (by rw [← h.1]; omega), ← h.1] at h2
    have hz : i - l.length = 0 := by
      rcases Nat.lt_or_ge (i - l.length) 1 with q | q
      · omega
      · rw [List.getElem?_eq_none (by simpa using q)] at h1; cases h1
    rw [hz] at h1 h2
    simp at h1 h2
    rw [← h1, ← h2]
    exact r
theorem Rel2.cons {a : α} {b : β} (r : R a b) (h : Rel2 R l m) : Rel2 R (a :: l) (b :: m) := by
  refine ⟨by simp [h.1], fun i x y h1 h2 => ?_⟩
  cases i with
  | zero =>
    simp at h1 h2
    rw [← h1, ← h2]
    exact r
  | succ i =>
    simp at h1 h2
    exact h.2 i x y h1 h2
end
theorem take_succ_of {α : Type} {l : List α} {i : Nat} {x : α} (h : l[i]? = some x) : l.take (i + 1) = l.take i ++ [x] := by
  obtain ⟨h1, h2⟩ := List.getElem?_eq_some_iff.mp h
  rw [List.take_succ_eq_append_getElem h1, h2]
theorem getLast?_snoc {α : Type} (l : List α) (x : α) : (l ++ [x]).getLast? = some x := by simp
/-! ### first ones -/
def f1 (acc : List Nat) : List Nat → List Nat
  | [] => acc
  | p :: ps => if acc.getLast? = some 0 then acc else f1 (if p ∈ acc then acc else acc ++ [p]) ps
/-- nothing stands behind a 0 -/
def Z0 (a : List Nat) : Prop := ∀ i, a[i]? = some 0 → i + 1 = a.length
theorem f1_stop {acc : List Nat} (h : acc.getLast? = some 0) : ∀ xs, f1 acc xs = acc
  | [] => rfl
  | x :: xs => by unfold f1; rw [if_pos h]
theorem f1_append : ∀ (xs ys acc : List Nat), f1 acc (xs ++ ys) = f1 (f1 acc xs) ys
  | [], ys, acc => rfl
  | x :: xs, ys, acc => by
    show (if acc.getLast? = some 0 then acc else f1 (if x ∈ acc then acc else acc ++ [x]) (xs ++ ys)) = f1 (if acc.getLast? = some 0 then acc else f1 (if x ∈ acc then acc else acc ++ [x]) xs) ys
    by_cases h : acc.getLast? = some 0
    · rw [if_pos h, if_pos h]
      exact (f1_stop h ys).symm
    · rw [if_neg h, if_neg h]
      exact f1_append xs ys _
theorem Z0.tail {x : Nat} {xs : List Nat} (h : Z0 (x :: xs)) : Z0 xs := fun i e => by
  have := h (i + 1) (by simpa using e)
  simp at this
  omega
theorem f1_filter : ∀ (xs acc : List Nat), 0 ∉ acc → xs.Nodup → Z0 xs → f1 acc xs = acc ++ xs.filter (fun x => decide (x ∉ acc))
  | [], acc, _, _, _ => by simp [f1]
  | x :: xs, acc, h0, hn, hz => by
    have hl : ¬ acc.getLast? = some 0 := fun e => h0 (List.mem_of_getLast? e)
    have hn2 := List.nodup_cons.mp hn
    unfold f1
    rw [if_neg hl]
    by_cases hx : x ∈ acc
    · rw [if_pos hx, f1_filter xs acc h0 hn2.2 hz.tail]
      simp [hx]
    · rw [if_neg hx]
      by_cases hx0 : x = 0
      · subst hx0
        have hnil : xs = [] := by
          have := hz 0 (by simp)
          simp at this
          exact this
        subst hnil
        simp [f1, hx]
      · have h0' : 0 ∉ acc ++ [x] := by
          simp only [List.mem_append, List.mem_singleton, not_or]
          exact ⟨h0, fun e => hx0 e.symm⟩
        rw [f1_filter xs (acc ++ [x]) h0' hn2.2 hz.tail]
        have e1 : (x :: xs).filter (fun y => decide (y ∉ acc)) = x :: xs.filter (fun y => decide (y ∉ acc)) := by
          rw [List.filter_cons_of_pos]
          simpa using hx
        rw [e1, List.append_assoc]
        congr 1
        show x :: _ = x :: _
        congr 1
        refine List.filter_congr fun y hy => ?_
        have hyx : y ≠ x := fun e => hn2.1 (e ▸ hy)
        simp [hyx]
theorem f1_self {a : List Nat} (hn : a.Nodup) (hz : Z0 a) : f1 [] a = a := by
  rw [f1_filter a [] (by simp) hn hz]
  simp
def follow (a b : List Nat) : List Nat := if 0 ∈ a then a else a ++ b.filter (fun x => decide (x ∉ a))
theorem Z0.last {a : List Nat} (hz : Z0 a) (h : 0 ∈ a) : a.getLast? = some 0 := by
  obtain ⟨i, hi, e⟩ := List.mem_iff_getElem.mp h
  have := hz i (by rw [List.getElem?_eq_getElem hi, e])
  rw [List.getLast?_eq_getElem?, show a.length - 1 = i by omega, List.getElem?_eq_getElem hi, e]
theorem f1_follow {a b : List Nat} (hna : a.Nodup) (hza : Z0 a) (hnb : b.Nodup) (hzb : Z0 b) : f1 [] (a ++ b) = follow a b := by
  rw [f1_append, f1_self hna hza]
  unfold follow
  by_cases h : 0 ∈ a
  · rw [if_pos h, f1_stop (hza.last h)]
  · rw [if_neg h, f1_filter b a h hnb hzb]
/-! ### orders -/
structure OrdOk (r : Bool) (n : Nat) (a : List Nat) : Prop where
  nd : a.Nodup
  z : Z0 a
  ne : a ≠ []
  bd : ∀ x ∈ a, low r ≤ x ∧ x ≤ n
theorem OrdOk.one {r : Bool} {n i : Nat} (h1 : low r ≤ i) (h2 : i ≤ n) : OrdOk r n [i] :=
  ⟨by simp, fun j e => by
    cases j with
    | zero => rfl
    | succ j => simp at e, by simp, fun x hx => by simp at hx; subst hx; exact ⟨h1, h2⟩⟩
theorem OrdOk.follow {r : Bool} {n : Nat} {a b : List Nat} (ha : OrdOk r n a) (hb : OrdOk r n b) : OrdOk r n (follow a b) := by
  unfold Cp.follow
  by_cases h : 0 ∈ a
  · rw [if_pos h]; exact ha
  · rw [if_neg h]
    have hmem : ∀ x ∈ b.filter (fun x => decide (x ∉ a)), x ∈ b ∧ x ∉ a := fun x hx => by
      have := List.mem_filter.mp hx
      simpa using this
    refine ⟨?_, ?_, by simp [ha.ne], fun x hx => ?_⟩
    · refine List.nodup_append.mpr ⟨ha.nd, hb.nd.filter _, fun x hx y hy e => ?_⟩
      exact (hmem y hy).2 (e ▸ hx)
    · intro i e
      by_cases hi : i < a.length
      · rw [List.getElem?_append_left hi] at e
        exact absurd (List.mem_of_getElem? e) h
      · rw [List.getElem?_append_right (by omega)] at e
        have h0 := (hmem 0 (List.mem_of_getElem? e)).1
        have hl := hb.z.last h0
        -- 0 is the last of b, so of the filtered b
        obtain ⟨b', rfl⟩ : ∃ b', b = b' ++ [0] := by
          have := List.getLast?_eq_some_iff.mp hl
          exact this
        have h0a : 0 ∉ a := h
        generalize hp : (fun x => decide (x ∉ a)) = p at e ⊢
        rw [List.filter_append] at e ⊢
        have ef : [0].filter p = [0] := by rw [← hp]; simp [h0a]
        rw [ef] at e ⊢
        have nb : 0 ∉ b'.filter p := fun hx => by
          have h1 := (List.mem_filter.mp hx).1
          have := List.nodup_append.mp hb.nd
          exact this.2.2 0 h1 0 (by simp) rfl
        have hj : i - a.length = (b'.filter p).length := by
          rcases Nat.lt_trichotomy (i - a.length) (b'.filter p).length with q | q | q
          · rw [List.getElem?_append_left q] at e
            exact absurd (List.mem_of_getElem? e) nb
          · exact q
          · exfalso
            rw [List.getElem?_append_right (by omega), List.getElem?_eq_none (by simp; omega)] at e
            cases e
        simp
        omega
    · rcases List.mem_append.mp hx with hx | hx
      · exact ha.bd x hx
      · exact hb.bd x (hmem x hx).1
def base (n : Nat) : List (List Nat) := (List.range (n + 1)).map fun i => [i]
def ordsF (found : List (List Nat)) : List (Nat × Nat) → List (List Nat)
  | [] => found
  | c :: cs => ordsF (found ++ [follow (found.getD c.1 []) (found.getD c.2 [])]) cs
def ords (n : Nat) (cs : List (Nat × Nat)) : List (List Nat) := ordsF (base n) cs
theorem ordsF_snoc : ∀ (cs : List (Nat × Nat)) (c : Nat × Nat) (f : List (List Nat)), ordsF f (cs ++ [c]) = ordsF f cs ++ [follow ((ordsF f cs).getD c.1 []) ((ordsF f cs).getD c.2 [])]
  | [], c, f => rfl
  | d :: cs, c, f => by
    show ordsF _ (cs ++ [c]) = _
    rw [ordsF_snoc cs c]
    rfl
theorem ordsF_len : ∀ (cs : List (Nat × Nat)) (f : List (List Nat)), (ordsF f cs).length = f.length + cs.length
  | [], f => rfl
  | d :: cs, f => by
    show (ordsF _ cs).length = _
    rw [ordsF_len cs]
    simp
    omega
theorem ords_len (n : Nat) (cs : List (Nat × Nat)) : (ords n cs).length = n + 1 + cs.length := by
  unfold ords base
  rw [ordsF_len]
  simp
theorem ords_snoc (n : Nat) (cs : List (Nat × Nat)) (c : Nat × Nat) : ords n (cs ++ [c]) = ords n cs ++ [follow ((ords n cs).getD c.1 []) ((ords n cs).getD c.2 [])] := ordsF_snoc cs c _
theorem ords_take {n : Nat} {cs : List (Nat × Nat)} {i : Nat} {c : Nat × Nat} (h : cs[i]? = some c) : ords n (cs.take (i + 1)) = ords n (cs.take i) ++ [follow ((ords n (cs.take i)).getD c.1 []) ((ords n (cs.take i)).getD c.2 [])] := by
  rw [take_succ_of h, ords_snoc]
/-- cells that read what stands before them -/
def CellsOk (r : Bool) (n : Nat) (cs : List (Nat × Nat)) : Prop := ∀ k u l, cs[k]? = some (u, l) → low r ≤ u ∧ u ≤ n + k ∧ low r ≤ l ∧ l ≤ n + k
theorem CellsOk.take {r : Bool} {n : Nat} {cs : List (Nat × Nat)} (h : CellsOk r n cs) (i : Nat) : CellsOk r n (cs.take i) := fun k u l e => by
  rw [List.getElem?_take] at e
  split at e
  · exact h k u l e
  · cases e
theorem ords_ok {r : Bool} {n : Nat} {cs : List (Nat × Nat)} (h : CellsOk r n cs) : ∀ j, low r ≤ j → j ≤ n + cs.length → OrdOk r n ((ords n cs).getD j []) := by
  have key : ∀ i, i ≤ cs.length → ∀ j, low r ≤ j → j ≤ n + i → OrdOk r n ((ords n (cs.take i)).getD j []) := by
    intro i
    induction i with
    | zero =>
      intro _ j h1 h2
      have e : (ords n (cs.take 0)).getD j [] = [j] := by
        show ((List.range (n + 1)).map fun i => [i]).getD j [] = [j]
        rw [List.getD_eq_getElem?_getD, List.getElem?_map, List.getElem?_range (by omega)]
        rfl
      rw [e]
      exact OrdOk.one h1 (by omega)
    | succ i ih =>
      intro hi j h1 h2
      have hc : cs[i]? = some cs[i] := List.getElem?_eq_getElem (by omega)
      obtain ⟨a1, a2, a3, a4⟩ := h i cs[i].1 cs[i].2 hc
      have hl := ords_len n (cs.take i)
      have hti : (cs.take i).length = i := by simp; omega
      rw [ords_take hc]
      by_cases hj : j ≤ n + i
      · rw [List.getD_eq_getElem?_getD, List.getElem?_append_left (by omega), ← List.getD_eq_getElem?_getD]
        exact ih (by omega) j h1 hj
      · have ej : j = n + 1 + i := by omega
        rw [List.getD_eq_getElem?_getD, List.getElem?_append_right (by omega)]
        rw [show j - (ords n (cs.take i)).length = 0 by omega]
        exact (ih (by omega) _ a1 a2).follow (ih (by omega) _ a3 a4)
  intro j h1 h2
  have := key cs.length (Nat.le_refl _) j h1 h2
  rwa [List.take_length] at this
end Cp
/-! The mathematics of deeds: what the law's model makes of a network. -/
namespace Cp
inductive Wk where
  | up
  | lo
  | out
  deriving DecidableEq
inductive Deed where
  | rewire (w : Wk) (at_ node : Nat)
  | add (u l : Nat)
  | drop (k : Int)
  | merge (a b : Nat)
  | change (ns : List Nat)
/-- the new number of a node when one is gone -/
def nm (gone inst v : Nat) : Nat := if v < gone then v else if v = gone then inst else v - 1
def without (M : Net) (gone inst : Nat) : Net :=
  ⟨M.n, (M.cs.eraseIdx (gone - M.n - 1)).map fun c => (nm gone inst c.1, nm gone inst c.2), M.os.map (nm gone inst)⟩
def top1 (M : Net) : Nat := M.n + M.cs.length
def inN (r : Bool) (M : Net) (v : Nat) : Prop := low r ≤ v ∧ v ≤ top1 M
instance (r : Bool) (M : Net) (v : Nat) : Decidable (inN r M v) := inferInstanceAs (Decidable (_ ∧ _))
/-- the network behind a deed, where the deed can be done -/
def done (r : Bool) (M : Net) : Deed → Option Net
  | .rewire .out i v => if low r ≤ i ∧ i ≤ M.n ∧ inN r M v then some ⟨M.n, M.cs, M.os.set (i - low r) v⟩ else none
  | .rewire .up i v => if i < M.cs.length ∧ low r ≤ v ∧ v ≤ M.n + i then some ⟨M.n, M.cs.set i (v, (M.cs.getD i (0, 0)).2), M.os⟩ else none
  | .rewire .lo i v => if i < M.cs.length ∧ low r ≤ v ∧ v ≤ M.n + i then some ⟨M.n, M.cs.set i ((M.cs.getD i (0, 0)).1, v), M.os⟩ else none
  | .add u l => if inN r M u ∧ inN r M l ∧ M.cs.length < 150 then some ⟨M.n, M.cs ++ [(u, l)], M.os⟩ else none
  | .drop k => if 0 ≤ k ∧ k < M.cs.length ∧ M.n + 1 + k.toNat ∉ M.os ∧ ∀ c ∈ M.cs, c.1 ≠ M.n + 1 + k.toNat ∧ c.2 ≠ M.n + 1 + k.toNat then some (without M (M.n + 1 + k.toNat) 0) else none
  | .merge a b => if inN r M a ∧ inN r M b ∧ M.n < b ∧ a < b ∧ (ords M.n M.cs).getD a [] = (ords M.n M.cs).getD b [] then some (without M b a) else none
  | .change ns => if ns.length = M.os.length ∧ ∀ v ∈ ns, inN r M v then some ⟨M.n, M.cs, ns⟩ else none
theorem nm_ok {r : Bool} {M : Net} {gone inst v k : Nat} (hg : M.n < gone) (h0 : low r ≤ v) (h1 : v ≤ M.n + k) (hi : v = gone → low r ≤ inst ∧ inst < gone) (hk : gone ≤ M.n + k) (hlo : low r ≤ 1) : low r ≤ nm gone inst v ∧ nm gone inst v ≤ M.n + k - 1 := by
  unfold nm
  by_cases h : v < gone
  · rw [if_pos h]; omega
  · rw [if_neg h]
    by_cases e : v = gone
    · rw [if_pos e]; have := hi e; omega
    · rw [if_neg e]; omega
theorem low_le1 (r : Bool) : low r ≤ 1 := by cases r <;> simp [low]
theorem without_ok {r : Bool} {M : Net} {gone inst : Nat} (hM : NetOk r M) (hg : M.n < gone) (hg2 : gone ≤ M.n + M.cs.length)
    (hi : (low r ≤ inst ∧ inst < gone) ∨ (gone ∉ M.os ∧ ∀ c ∈ M.cs, c.1 ≠ gone ∧ c.2 ≠ gone)) : NetOk r (without M gone inst) := by
  have hlo := low_le1 r
  have hat : gone - M.n - 1 < M.cs.length := by omega
  have hlen : (without M gone inst).cs.length = M.cs.length - 1 := by
    show ((M.cs.eraseIdx (gone - M.n - 1)).map _).length = _
    rw [List.length_map, List.length_eraseIdx, if_pos hat]
  refine ⟨hM.lo, hM.hi, by rw [hlen]; have := hM.many; omega, fun k u l e => ?_, by show (M.os.map _).length = _; rw [List.length_map]; exact hM.outs, fun o ho => ?_⟩
  · have e : ((M.cs.eraseIdx (gone - M.n - 1)).map fun c => (nm gone inst c.1, nm gone inst c.2))[k]? = some (u, l) := e
    rw [List.getElem?_map, List.getElem?_eraseIdx] at e
    have key : ∀ k', (k' < gone - M.n - 1 ∧ k' = k ∨ gone - M.n - 1 < k' ∧ k' = k + 1) → ∀ c, M.cs[k']? = some c → (nm gone inst c.1, nm gone inst c.2) = (u, l) → low r ≤ u ∧ u ≤ M.n + k ∧ low r ≤ l ∧ l ≤ M.n + k := by
      intro k' hk' c hc eq
      obtain ⟨c1, c2⟩ := c
      have hcell := hM.cell k' c1 c2 hc
      cases eq
      rcases hk' with ⟨h1, rfl⟩ | ⟨h1, rfl⟩
      · have e1 : nm gone inst c1 = c1 := by unfold nm; rw [if_pos (by omega)]
        have e2 : nm gone inst c2 = c2 := by unfold nm; rw [if_pos (by omega)]
        show low r ≤ nm gone inst c1 ∧ nm gone inst c1 ≤ _ ∧ low r ≤ nm gone inst c2 ∧ nm gone inst c2 ≤ _
        rw [e1, e2]; exact hcell
      · have hm := List.mem_of_getElem? hc
        have a1 := nm_ok (r := r) (M := M) (gone := gone) (inst := inst) (v := c1) (k := k + 1) hg hcell.1 hcell.2.1 (fun z => hi.elim id fun y => absurd z (y.2 _ hm).1) (by omega) hlo
        have a2 := nm_ok (r := r) (M := M) (gone := gone) (inst := inst) (v := c2) (k := k + 1) hg hcell.2.2.1 hcell.2.2.2 (fun z => hi.elim id fun y => absurd z (y.2 _ hm).2) (by omega) hlo
        show low r ≤ nm gone inst c1 ∧ nm gone inst c1 ≤ _ ∧ low r ≤ nm gone inst c2 ∧ nm gone inst c2 ≤ _
        omega
    by_cases hk : k < gone - M.n - 1
    · rw [if_pos hk] at e
      cases hc : M.cs[k]? with
      | none => rw [hc] at e; cases e
      | some c => rw [hc] at e; exact key k (.inl ⟨hk, rfl⟩) c hc (Option.some.inj e)
    · rw [if_neg hk] at e
      cases hc : M.cs[k + 1]? with
      | none => rw [hc] at e; cases e
      | some c => rw [hc] at e; exact key (k + 1) (.inr ⟨by omega, rfl⟩) c hc (Option.some.inj e)
  · obtain ⟨v, hv, rfl⟩ := List.mem_map.mp ho
    have hb := hM.out v hv
    rw [hlen]
    have a1 := nm_ok (r := r) (M := M) (gone := gone) (inst := inst) (v := v) (k := M.cs.length) hg hb.1 hb.2 (fun z => hi.elim id fun y => absurd (z ▸ hv) y.1) hg2 hlo
    show low r ≤ nm gone inst v ∧ nm gone inst v ≤ M.n + (M.cs.length - 1)
    omega
theorem done_ok {r : Bool} {M M' : Net} {d : Deed} (hM : NetOk r M) (h : done r M d = some M') : NetOk r M' ∧ M'.n = M.n := by
  have hlo := low_le1 r
  have setc : ∀ (i : Nat) (c : Nat × Nat), i < M.cs.length → low r ≤ c.1 ∧ c.1 ≤ M.n + i ∧ low r ≤ c.2 ∧ c.2 ≤ M.n + i → NetOk r ⟨M.n, M.cs.set i c, M.os⟩ := fun i c hi hc =>
    ⟨hM.lo, hM.hi, by simpa using hM.many, fun k u l e => by
      by_cases hk : i = k
      · subst hk
        have e : (M.cs.set i c)[i]? = some (u, l) := e
        rw [List.getElem?_set_self hi] at e
        cases e
        exact hc
      · have e : (M.cs.set i c)[k]? = some (u, l) := e
        rw [List.getElem?_set_ne hk] at e
        exact hM.cell k u l e, hM.outs, fun o ho => by
      show low r ≤ o ∧ o ≤ M.n + (M.cs.set i c).length
      rw [List.length_set]; exact hM.out o ho⟩
  have cellAt : ∀ i, i < M.cs.length → low r ≤ (M.cs.getD i (0, 0)).1 ∧ (M.cs.getD i (0, 0)).1 ≤ M.n + i ∧ low r ≤ (M.cs.getD i (0, 0)).2 ∧ (M.cs.getD i (0, 0)).2 ≤ M.n + i := fun i hi => by
    have e : M.cs.getD i (0, 0) = M.cs[i] := by rw [List.getD_eq_getElem?_getD, List.getElem?_eq_getElem hi]; rfl
    rw [e]
    exact hM.cell i _ _ (List.getElem?_eq_getElem hi)
  cases d with
  | rewire w i v =>
    cases w with
    | out =>
      simp only [done] at h
      split at h
      · rename_i hc
        cases h
        refine ⟨⟨hM.lo, hM.hi, hM.many, hM.cell, by simpa using hM.outs, fun o ho => ?_⟩, rfl⟩
        rcases List.mem_or_eq_of_mem_set ho with q | q
        · exact hM.out o q
        · subst q; exact hc.2.2
      · cases h
    | up =>
      simp only [done] at h
      split at h
      · rename_i hc
        cases h
        have := cellAt i hc.1
        exact ⟨setc i _ hc.1 ⟨hc.2.1, hc.2.2, this.2.2.1, this.2.2.2⟩, rfl⟩
      · cases h
    | lo =>
      simp only [done] at h
      split at h
      · rename_i hc
        cases h
        have := cellAt i hc.1
        exact ⟨setc i _ hc.1 ⟨this.1, this.2.1, hc.2.1, hc.2.2⟩, rfl⟩
      · cases h
  | add u l =>
    simp only [done] at h
    split at h
    · rename_i hc
      obtain ⟨⟨a1, a2⟩, ⟨a3, a4⟩, a5⟩ := hc
      cases h
      refine ⟨⟨hM.lo, hM.hi, by show (M.cs ++ [(u, l)]).length ≤ 150; simp; omega, fun k x y e => ?_, hM.outs, fun o ho => by have := hM.out o ho; show low r ≤ o ∧ o ≤ M.n + (M.cs ++ [(u, l)]).length; simp; omega⟩, rfl⟩
      have e : (M.cs ++ [(u, l)])[k]? = some (x, y) := e
      by_cases hk : k < M.cs.length
      · rw [List.getElem?_append_left hk] at e
        exact hM.cell k x y e
      · rw [List.getElem?_append_right (by omega)] at e
        have hz : k - M.cs.length = 0 := by
          rcases Nat.lt_or_ge (k - M.cs.length) 1 with q | q
          · omega
          · rw [List.getElem?_eq_none (by simpa using q)] at e; cases e
        rw [hz] at e
        cases e
        unfold top1 at a2 a4
        have hke : k = M.cs.length := by omega
        subst hke
        exact ⟨a1, a2, a3, a4⟩
    · cases h
  | drop k =>
    simp only [done] at h
    split at h
    · rename_i hc
      cases h
      exact ⟨without_ok hM (by omega) (by omega) (.inr ⟨hc.2.2.1, hc.2.2.2⟩), rfl⟩
    · cases h
  | merge a b =>
    simp only [done] at h
    split at h
    · rename_i hc
      cases h
      obtain ⟨⟨a1, a2⟩, ⟨a3, a4⟩, a5, a6, _⟩ := hc
      exact ⟨without_ok hM a5 a4 (.inl ⟨a1, a6⟩), rfl⟩
    · cases h
  | change ns =>
    simp only [done] at h
    split at h
    · rename_i hc
      cases h
      exact ⟨⟨hM.lo, hM.hi, hM.many, hM.cell, by show ns.length = _; rw [hc.1]; exact hM.outs, fun o ho => hc.2 o ho⟩, rfl⟩
    · cases h
end Cp
set_option maxHeartbeats 4000000
/-! The words of this proof: how a def's promise is made, calls by promises, heaps. -/
namespace Cp
open PySem PySem.Spec PyProof.Rows L2
section
variable {P : Program} {w : World} {K : PySem.W.Frag} {mg : Str → Option Value} {base : Heap}
/-- a def of the text keeps its promise, whoever calls it -/
theorem mkR {x qual : Str} {params : Arguments} {body : List Stmt} {scope : Scope} {kws : List (Str × V)} {f : Addr} {fd : FuncData} {N ps : List Str} {k : Nat} {sp : Sp}
    (F : FunD K x qual params body scope [] kws f fd) (S : FnScope N ps scope)
    (hb : ∀ (kV doc pm : Value) (an : Option Addr) (cdv ct : Value) (us : List Value), us.length = ps.length → bindArgs (PySem.W.fnOf x qual params body scope .none kV doc pm an cdv ct) ⟨us, []⟩ = pure (ps.zip us))
    (len : ∀ vs H Q E, sp vs H Q E → vs.length = ps.length)
    (hbody : ∀ (cdv : Value) (A : Around) (outer : List Env) (s : Shared) (H : Hp) (vs : List V) (Q : VK) (E : XK), Room k (A.deeper (envOfC qual scope s.heap.objs.size f cdv)) → sp vs H Q E →
      ∃ t, PSs (cxOf CX0 P w K mg base N qual scope f cdv A outer s H E).nox body t ∧ t { nx := fun _ H' => Q .non H', rt := Q } (start N vs) H) :
    FnR P w K mg base CX0 (k + 1) f sp := by
  have G : FnOk P w K mg base CX0 (k + 1) f fd ps sp := F.ok S len fun cdv A outer s H vs Q E hr h => by
    obtain ⟨t, h1, h2⟩ := hbody cdv A outer s H vs Q E hr h
    exact ⟨t, h1.nox, h2⟩
  exact (G.raw (F.bindsN hb) .nil).imp fun vs H Q E h => by rw [List.append_nil]; exact h
end

/-! ### calls by promises -/
/-- f(e, ..) -/
def tCR (sp : Sp) (t : TA) : TE := fun σ H Q => t σ H fun vs H1 => sp vs H1 Q E0
/-- o.m(e, ..), o an instance of the class at C -/
def tMR (C : Addr) (m : Str) (sp : Sp) (ta : TE) (t : TA) : TE := fun σ H Q => ta σ H fun x H1 => ∃ a dx fs, x = .ref a ∧ H1 a = some (.ins C dx fs) ∧ fs.lookup m = none ∧ t σ H1 fun vs H2 => sp (x :: vs) H2 Q E0
/-- o.p, a property -/
def tPR (C : Addr) (sp : Sp) (ta : TE) : TE := fun σ H Q => ta σ H fun x H1 => ∃ a dx fs, x = .ref a ∧ H1 a = some (.ins C dx fs) ∧ sp [x] H1 Q E0
section
variable {X : Cx} {j k : Nat} {f C p : Addr} {sp : Sp} {x m : Str} {pp pos apos : Pos} {e o : Expr} {es : List Expr} {ta : TE} {t : TA}
theorem rf_call (F : FnR X.prog X.w X.K X.mg X.base CX0 j f sp) (hr : Room k X.A) (hm : X.mg x = some (.ref f)) (hk : PySem.W.keepIn X.K (.ref f) = true) (ha : PA X (e :: es) t) (hj : j ≤ k := by decide) (hg : Gl X x := by rfl)
    (hdb : (x == ("__debug__" : Str)) = false := by decide) (he : starEach (e :: es) X.env = (false, eval e X.env) :: starEach es X.env := by rfl) (hpl : (backTo pos (starEach es X.env)).any (·.1) = false := by rfl) :
    PE X (.Call (.Name x pp) (e :: es) [] pos) (tCR sp t) := by
  refine ⟨fun pins s σ H Q I h => ?_⟩
  refine wpAny_Call_Name_kw (ld_glob I hg hm ?_ hdb)
  refine PySem.W.callWith_K (h₀ := X.base) I.ok.mod.kin hk (thn (ha.run pos pins s σ H _ I h) fun us s1 ⟨vs, H1, I1, r, q⟩ => ⟨I1.kIn, ?_⟩) he hpl
  exact wpAny_call (run_fnR F (hr.mono hj) pass0 I1 r q)
/-- f(e, .., *y) -/
theorem rf_callS (F : FnR X.prog X.w X.K X.mg X.base CX0 j f sp) (hr : Room k X.A) (hm : X.mg x = some (.ref f)) (hk : PySem.W.keepIn X.K (.ref f) = true) (ha : PA X (e :: es) t) (hj : j ≤ k := by decide) (hg : Gl X x := by rfl)
    (hdb : (x == ("__debug__" : Str)) = false := by decide) (he : starEach (e :: es) X.env = (false, eval e X.env) :: starEach es X.env := by rfl) (hst : (backTo pos (starEach es X.env)).any (·.1) = true := by rfl) :
    PE X (.Call (.Name x pp) (e :: es) [] pos) (tCR sp t) := StX.pe_callS2 F (hr.mono hj) hk hg hm pass0 ha hdb he hst
theorem rf_meth {pl : Sem Bool} (he : PE X o ta) (c : Cls X.K C) (hm : Meth X.K C m f) (F : FnR X.prog X.w X.K X.mg X.base CX0 j f sp) (hr : Room k X.A) (ha : PA X (e :: es) t) (hj : j ≤ k := by decide)
    (hst : starEach (e :: es) X.env = (false, eval e X.env) :: starEach es X.env := by rfl) (hpl : (backTo pos (starEach es X.env)).any (·.1) = false := by rfl)
    (ht : eval (.Call (.Attribute o m apos) (e :: es) [] pos) X.env = (do
      let ov ← eval o X.env
      standAt apos.atName
      let (f, first) ← holding [ov] (getMethod ov m pl)
      callWith pos f first (backTo pos (starEach (e :: es) X.env)) (backToKw pos (keywordEach [] X.env))) := by rfl) :
    PE X (.Call (.Attribute o m apos) (e :: es) [] pos) (tMR C m sp ta t) := pe_methR he c hm (F.mono hj) hr pass0 ha hst hpl ht
theorem rf_meth0 {pl : Sem Bool} (he : PE X o ta) (c : Cls X.K C) (hm : Meth X.K C m f) (F : FnR X.prog X.w X.K X.mg X.base CX0 j f sp) (hr : Room k X.A) (hj : j ≤ k := by decide)
    (ht : eval (.Call (.Attribute o m apos) [] [] pos) X.env = (do
      let ov ← eval o X.env
      standAt apos.atName
      let (f, first) ← holding [ov] (getMethod ov m pl)
      callWith pos f first (backTo pos (starEach [] X.env)) (backToKw pos (keywordEach [] X.env))) := by rfl) :
    PE X (.Call (.Attribute o m apos) [] [] pos) (tMR C m sp ta tNil) := by
  refine ⟨fun pins s σ H Q I h => ?_⟩
  refine PySem.W.methodCall_KW (pl := pl) (thn (he.run pins s σ H _ I h) fun u s1 ⟨x, H1, I1, rx, a, dx, fs, ex, ea, l, q⟩ => ?_) ht
  subst ex
  obtain rfl : u = Value.ref a := rx
  refine getmeth_ok I1 ea c hm l ?_
  exact PySem.W.callWith_K0 (first := [.ref a]) I1.kIn hm.kp (wpAny_call (run_fnR (us := [.ref a]) (vs := [.ref a]) F (hr.mono hj) pass0 I1 (.cons rfl .nil) q))
theorem rf_prop (he : PE X o ta) (c : Cls X.K C) (hp : PropOf X.K C m p f) (F : FnR X.prog X.w X.K X.mg X.base CX0 j f sp) (hr : Room k X.A) (hj : j + 1 ≤ k := by decide)
    (hab : attributeBase o m X.env (eval o X.env) = eval o X.env := by rfl) : PE X (.Attribute o m pos) (tPR C sp ta) := by
  refine ⟨fun pins s σ H Q I h => ?_⟩
  refine attr_of hab (thn (he.run pins s σ H _ I h) fun u s1 ⟨x, H1, I1, rx, a, dx, fs, ex, ea, q⟩ => ?_)
  subst ex
  obtain rfl : u = Value.ref a := rx
  obtain ⟨mA, O, _, _, _, _⟩ := ins_get I1.hok ea
  obtain ⟨od, J, _⟩ := O.look
  obtain ⟨rest, hrec⟩ := hp.rec_
  have I2 := I1.tok (s1.toks + 1)
  have hc : (PySem.W.clsIn X.K C).isSome = true := by
    obtain ⟨cd, hc, _⟩ := PySem.W.any_some c.hd
    rw [hc]
    rfl
  have hr1 : Room (j + 1) X.A := hr.mono hj
  refine PySem.W.get_bind I1.kIn J (PySem.W.plainGet_of (c.get m)).1 (PySem.W.findObj_data hc hp.at_ hp.get hp.tak) (PySem.W.plainGet_of (c.get m)).2 (wpAny_call (PySem.W.prop_get (s := { s1 with toks := s1.toks + 1 }) I1.kIn hrec ?_))
  refine codeAny_mono (F X.A.in1 X.stack { s1 with toks := s1.toks + 1 } H1 [.ref a] [.ref a] Q E0 hr1.in1 I2.env0.in1 (.cons rfl .nil) q) fun r s' hq => ?_
  cases r with
  | error er => exact False.elim hq
  | ok fl =>
    cases fl with
    | ret u =>
      obtain ⟨v, H', I3, rv, q3⟩ := I2.after hq
      show wpAny _ _ (handedOut u) _ _ _
      rw [PySem.W.handedOut_of (handed_of rv)]
      exact wpAny_pure ⟨v, H', I3, rv, q3⟩
    | next => exact False.elim hq
    | brk => exact False.elim hq
    | cont => exact False.elim hq
/-- C(e, ..), its __init__ by a promise -/
theorem rf_make (M : Mk X.K C f) (F : FnR X.prog X.w X.K X.mg X.base CX0 j f sp) (hr : Room k X.A) (hm : X.mg x = some (.ref C)) (ha : PA X (e :: es) t) (hj : j + 1 ≤ k := by decide) (hg : Gl X x := by rfl) (hdb : (x == ("__debug__" : Str)) = false := by decide)
    (he : starEach (e :: es) X.env = (false, eval e X.env) :: starEach es X.env := by rfl) (hpl : (backTo pos (starEach es X.env)).any (·.1) = false := by rfl) : PE X (.Call (.Name x pp) (e :: es) [] pos) (StX.tMakeR C sp E0 t) :=
  StX.pe_makeR M F (hr.mono hj) hg hm pass0 ha hdb he hpl
end

/-! ### is_between -/
/-- value an int -/
def spBetween : Sp := fun vs H Q _ => ∃ z a b : Int, vs = [.int z, .int a, .int b] ∧ Q (.bl (decide (a ≤ z ∧ z ≤ b))) H
theorem sc_is_between : FnScope ["value", "least", "most"] ["value", "least", "most"] (defScope s_is_between) := ⟨rfl, rfl, rfl, by decide +kernel, rfl, by decide +kernel, by decide +kernel⟩
section
variable {P : Program} {w : World} {K : PySem.W.Frag} {mg : Str → Option Value} {base : Heap}
theorem ok_is_between (T : Txt w K mg) : FnR P w K mg base CX0 1 (gA "is_between" K) spBetween := by
  obtain ⟨fd, F⟩ := T.f_is_between
  refine mkR F sc_is_between (fun _ _ _ _ _ _ us hl => match us, hl with | [_, _, _], _ => rfl) (fun vs H Q E h => ?_) (fun cdv A outer s H vs Q E hr h => ?_)
  · obtain ⟨z, a, b, rfl, _⟩ := h
    rfl
  · obtain ⟨z, a, b, rfl, q⟩ := h
    refine ⟨_, pss_one (ps_ret (pe_and (pe_callB call_isi (by rfl) T.b_isinstance (by decide +kernel) (pa_cons (pv 0) (pa_cons (pe_bltn (v := .ty "int") (by rfl) T.b_int (by decide +kernel) rfl) pa_nil)))
      (pe_and (pe_not (pe_callB call_isi (by rfl) T.b_isinstance (by decide +kernel) (pa_cons (pv 0) (pa_cons (pe_bltn (v := .ty "bool") (by rfl) T.b_bool (by decide +kernel) rfl) pa_nil))))
        (pe_one (pe_chain op_le op_le (pv 1) (pv 0) (pv 2)))))), ?_⟩
    refine ⟨_, rfl, _, _, _, _, true, rfl, .ty "int", .base (.int z), kit_ty (by decide +kernel), true, rfl, iteT ?_⟩
    refine ⟨_, rfl, _, _, _, _, false, rfl, .ty "bool", .base (.int z), kit_ty (by decide +kernel), false, rfl, ?_⟩
    refine ⟨true, rfl, iteT ?_⟩
    refine ⟨_, rfl, _, rfl, _, _, rfl, rfl, _, rfl, ?_⟩
    by_cases h1 : a ≤ z
    · rw [decide_eq_true h1]
      refine iteT ⟨_, rfl, _, _, rfl, rfl, ?_⟩
      simpa [h1] using q
    · rw [decide_eq_false h1]
      refine iteF ?_
      simpa [h1] using q
end
end Cp
/-! Rules that this program wants: constants of the module, == with an empty display, enumerate of a tuple. -/
namespace Cp
open PySem PySem.Spec PyProof.Rows L2
section
variable {X : Cx} {x z : Str} {i : Int} {a : Addr} {pos : Pos}
theorem pe_gs (h : ∃ t, X.mg x = some (.str z t)) (hg : Gl X x := by rfl) (hd : (x == ("__debug__" : Str)) = false := by decide) : PE X (.Name x pos) (tC (.str z)) :=
  let ⟨t, e⟩ := h; pe_glob hg e ⟨t, rfl⟩ hd
theorem pe_gi (h : ∃ t, X.mg x = some (.int i t)) (hg : Gl X x := by rfl) (hd : (x == ("__debug__" : Str)) = false := by decide) : PE X (.Name x pos) (tC (.int i)) :=
  let ⟨t, e⟩ := h; pe_glob hg e ⟨t, rfl⟩ hd
theorem pe_gr (h : X.mg x = some (.ref a)) (hg : Gl X x := by rfl) (hd : (x == ("__debug__" : Str)) = false := by decide) : PE X (.Name x pos) (tC (.ref a)) := pe_glob hg h rfl hd
theorem pa_star0 {e : Expr} {es : List Expr} {te : TE} {t : TA} {p : Pos} (he : PE X e te) (hr : PA X es t) (hs : starEach (.Starred e p :: es) X.env = (true, eval e X.env) :: starEach es X.env := by rfl) : PA X (.Starred e p :: es) (StX.tStar X.K te t) := StX.pa_star he hr hs
theorem m2_here {o e f : Expr} {m : Str} {apos cpos : Pos} (base : attributeBase o m X.env (eval o X.env) = eval o X.env := by rfl)
    (few : ((backTo cpos (starEach [e, f] X.env)).all (fun x => !x.1) && (backToKw cpos (keywordEach [] X.env)).all (fun x => x.1.isSome)
      && decide (([e, f] : List Expr).length + ([] : List Keyword).length + (if ([] : List Keyword).isEmpty then 0 else 1) < 30)) = true := by rfl)
    (line : (apos.endLine == cpos.line) = true := by rfl) (trees : backTo cpos (starEach [e, f] X.env) = [(false, eval e X.env), (false, eval f X.env)] := by rfl) : M2 X o m apos e f cpos := ⟨base, few, line, trees⟩
end

/-! ### == and != with an empty list, an empty tuple -/
def rEq0 (K : PySem.W.Frag) : R2 := fun x y H Q => ∃ a b xs, x = .ref a ∧ y = .ref b ∧ ((SqL K H a xs ∧ SqL K H b []) ∨ (SqT K H a xs ∧ SqT K H b [])) ∧ Q (.bl xs.isEmpty) H
def rNe0 (K : PySem.W.Frag) : R2 := fun x y H Q => ∃ a b xs, x = .ref a ∧ y = .ref b ∧ ((SqL K H a xs ∧ SqL K H b []) ∨ (SqT K H a xs ∧ SqT K H b [])) ∧ Q (.bl (!xs.isEmpty)) H
section
variable {X : Cx}
theorem len0 {xs : List V} {its : List Value} (r : Vals xs its) : (its.toArray.size == 0) = xs.isEmpty := by
  cases r <;> rfl
theorem op_eq0 (hu : X.A.units + 64 < cLine) : OpR X (compareOp .Eq) (rEq0 X.K) := by
  intro pins s σ H x y v u Q I rx ry h
  obtain ⟨a, b, xs, rfl, rfl, hh, q⟩ := h
  cases rx
  cases ry
  have hu0 : X.A.units < cLine := by omega
  rcases hh with ⟨h1, h2⟩ | ⟨h1, h2⟩
  · obtain ⟨its, r1, p1, _⟩ := I.list h1
    obtain ⟨its2, r2, p2, _⟩ := I.list h2
    cases r2
    cases r1 with
    | nil =>
      refine SeqAt.RcAt.lists (e := fun _ => true) p1.isList p2.isList rfl hu0 (fun j h1 => absurd h1 (Nat.not_lt_zero j)) X.prog X.w _ _ ?_
      exact ⟨.bl true, H, I, rfl, q⟩
    | cons a1 b1 =>
      refine SeqAt.RcAt.lists_lengths p1.isList p2.isList (by simp) hu0 X.prog X.w _ _ ?_
      exact ⟨.bl false, H, I, rfl, q⟩
  · obtain ⟨its, r1, p1, _⟩ := I.tuple h1
    obtain ⟨its2, r2, p2, _⟩ := I.tuple h2
    cases r2
    cases r1 with
    | nil =>
      refine SeqAt.RcAt.tuples (e := fun _ => true) p1 p2 hu0 (fun j h1 => absurd h1 (Nat.not_lt_zero j)) X.prog X.w _ _ ?_
      exact ⟨.bl true, H, I, rfl, q⟩
    | cons a1 b1 =>
      refine SeqAt.RcAt.tuples (e := fun _ => true) p1 p2 hu0 (fun j _ h2 => absurd h2 (Nat.not_lt_zero j)) X.prog X.w _ _ ?_
      exact ⟨.bl false, H, I, by simp [L2.RelV], q⟩
theorem op_ne0 (hu : X.A.units + 64 < cLine) : OpR X (compareOp .NotEq) (rNe0 X.K) := by
  intro pins s σ H x y v u Q I rx ry h
  obtain ⟨a, b, xs, rfl, rfl, hh, q⟩ := h
  cases rx
  cases ry
  have hu0 : X.A.units < cLine := by omega
  rcases hh with ⟨h1, h2⟩ | ⟨h1, h2⟩
  · obtain ⟨its, r1, p1, _⟩ := I.list h1
    obtain ⟨its2, r2, p2, _⟩ := I.list h2
    cases r2
    cases r1 with
    | nil =>
      refine SeqAt.RcNeAt.lists (e := fun _ => true) p1.isList p2.isList rfl hu0 (fun j h1 => absurd h1 (Nat.not_lt_zero j)) X.prog X.w _ _ ?_
      exact ⟨.bl false, H, I, rfl, q⟩
    | cons a1 b1 =>
      refine SeqAt.RcNeAt.lists_lengths p1.isList p2.isList (by simp) hu0 X.prog X.w _ _ ?_
      exact ⟨.bl true, H, I, rfl, q⟩
  · obtain ⟨its, r1, p1, _⟩ := I.tuple h1
    obtain ⟨its2, r2, p2, _⟩ := I.tuple h2
    cases r2
    cases r1 with
    | nil =>
      refine SeqAt.RcNeAt.tuples (e := fun _ => true) p1 p2 hu0 (fun j h1 => absurd h1 (Nat.not_lt_zero j)) X.prog X.w _ _ ?_
      exact ⟨.bl false, H, I, rfl, q⟩
    | cons a1 b1 =>
      refine SeqAt.RcNeAt.tuples (e := fun _ => true) p1 p2 hu0 (fun j _ h2 => absurd h2 (Nat.not_lt_zero j)) X.prog X.w _ _ ?_
      exact ⟨.bl true, H, I, by simp [L2.RelV], q⟩
end

/-! ### enumerate of a tuple -/
set_option maxHeartbeats 4000000 in
theorem meets_enumerate_newT {v : Value} {o : Obj} {H : Heap → Prop} (B : Begins v o H) :
    Meets (Builtin.«enumerate.__new__» ⟨[.type "enumerate", v], []⟩) (fun _ R s => H s.heap ∧
      R (.ok (.ret (.ref (s.heap.push o).objs.size))) { s with heap := (s.heap.push o).push { cls := .type "enumerate", data := .fields #[.none, .bool false, .ref s.heap.objs.size, rawInt 0, .none, .none] } }) :=
  .of_wp fun prog w A R s h => by
    obtain ⟨hp, g, d, tk, os⟩ := s; obtain ⟨h1, h⟩ := h
    have hsub := sub_enumerate
    have q1 : ∀ {A' : Around} {E : Value → Shared → Prop} {Q : Value → Shared → Prop}, Q (.ref hp.objs.size) ⟨hp.push o, g, d, tk, os⟩ → wpAny (model prog w) A' (pyIter v) Q E ⟨hp, g, d, tk, os⟩ :=
      fun q => B.iter prog w _ _ ⟨hp, g, d, tk, os⟩ _ h1 q
    wp_walk using q1
    refine wpAny_stack_any fun st => wpAny_pure ?_
    split
    · rename_i c _ _ _ _ _
      cases (c == Value.type "enumerate")
      · wp_walk using q1
        exact ⟨_, rfl, h⟩
      · wp_walk using q1
        exact ⟨_, rfl, h⟩
    · wp_walk using q1
      exact ⟨_, rfl, h⟩
theorem call_enumerate_T {prog : Program} {w : World} {A : Around} {E : Value → Shared → Prop} {s : Shared} {v : Value} {o : Obj} {H : Heap → Prop} {Q : Value → Shared → Prop} (B : Begins v o H) (h1 : H s.heap)
    (h : ∀ h', IsEnum h' (s.heap.objs.size + 1) s.heap.objs.size 0 .none → h'.get? s.heap.objs.size = some o → h'.objs.size = s.heap.objs.size + 2 →
      (∀ b o, s.heap.get? b = some o → h'.get? b = some o) → Q (.ref (s.heap.objs.size + 1)) { s with heap := h' }) :
    wpAny (model prog w) A (call (.type "enumerate") [v]) Q E s := by
  refine callType_new F.called_enumerate (by decide) (F.typeCall_enumerate_1 _) (F.newCall_enumerate_1 _) (fun obj => F.args_object_init_2 obj _) F.entry_enumerate_new
    (meets_enumerate_newT B) ⟨h1, ?_⟩
  have hz : (s.heap.push o).objs.size = s.heap.objs.size + 1 := Heap.size_push ..
  show _ ∧ _
  rw [hz]
  have he : IsEnum ((s.heap.push o).push { cls := .type "enumerate", data := .fields #[.none, .bool false, .ref s.heap.objs.size, rawInt 0, .none, .none] }) (s.heap.objs.size + 1) s.heap.objs.size 0 .none := by
    have := Heap.get?_push_size (s.heap.push o)
      (o := { cls := .type "enumerate", data := .fields #[.none, .bool false, .ref s.heap.objs.size, rawInt 0, .none, .none] }) rfl
    rw [hz] at this; exact this
  exact ⟨⟨_, he, rfl⟩, h _ he (Heap.get?_push_of_some _ (Heap.get?_push_size _ B.free)) (by rw [Heap.size_push, hz]) fun b o x => Heap.get?_push_of_some _ (Heap.get?_push_of_some _ x)⟩
/-- the tuple at a as it stands at each turn, each item in a new pair -/
def IteT (K : PySem.W.Frag) (a : Addr) : It :=
  ⟨fun i H => ∃ (xs : List V) (x : V), SqT K H a xs ∧ xs[i]? = some x, fun i H v H' => ∃ T x, v = .ref T ∧ H T = none ∧ H' = upd H T (.tup [.int (i : Nat), x]) ∧ ∀ xs, SqT K H a xs → xs[i]? = some x, fun i H => ∃ xs : List V, SqT K H a xs ∧ xs.length ≤ i⟩
theorem turn_enumT {P : Program} {w : World} {K : PySem.W.Frag} {elts : List Expr} {kk : Nat} {tpos : Pos} (a e it : Addr) (hai : a ≠ it) (hae : a ≠ e) (hei : e ≠ it) :
    Turn P w K (.Tuple elts kk tpos) (IteT K a) [e, it] e (fun i h => (∃ old, IsEnum h e it ((i : Nat) : Int) old) ∧ h.IsTupleIter it a i) where
  mem := by simp
  obj := fun i h st b hb => by
    obtain ⟨⟨old, he⟩, ⟨o, ho, hc, hd⟩⟩ := st
    have e' : b = e ∨ b = it := by simpa using hb
    rcases e' with z | z
    · rw [z]; exact ⟨_, he, fun v q => nomatch q⟩
    · rw [z]; exact ⟨o, ho, fun v q => by rw [hd] at q; cases q⟩
  keep := fun i h h' st k => let ⟨⟨old, he⟩, hi⟩ := st; ⟨⟨old, k e (by simp) _ he⟩, hi.at fun o q => k it (by simp) o q⟩
  item := by
    intro X hP hw hK hc i pins s σ H E I hf st hg
    subst hP hw hK
    obtain ⟨⟨old, he⟩, hit⟩ := st
    obtain ⟨xs, x, hq, hx⟩ := hg
    obtain ⟨its, rv, p, hz⟩ := I.tuple hq
    obtain ⟨u, hu, ru⟩ := rv.get hx
    have hel : e < s.heap.objs.size := Heap.lt_size he
    have hil : it < s.heap.objs.size := by obtain ⟨_, q, _⟩ := hit; exact Heap.lt_size q
    have hlt : i < its.toArray.size := by
      have := (List.getElem?_eq_some_iff.mp hu).1
      simpa using this
    have D := Draws.tuple (prog := X.prog) (w := X.w) (A := X.A.in1) (show X.A.in1.handled = none from I.ok.hd hc) it a hai its.toArray
    refine wpAny_pyNext_enum_itemD D he ⟨hit, p⟩ hlt hei (by simp [hei, Ne.symm hae]) fun v h' tk hP ho hs' hT hsz hk => ?_
    have ev : v = u := by
      have e1 : its.toArray[i]? = some v := hP
      have e2 : its.toArray[i]? = some u := by simpa using hu
      rw [e1] at e2
      exact Option.some.inj e2
    subst ev
    refine ⟨_, rfl, wpAny_letOwnedTupleGo_enum (s := { s with heap := h', toks := tk + 1 }) ho fun h'' he' sb => ?_⟩
    have hT2 : h''.get? s.heap.objs.size = some { cls := .type "tuple", data := .seq #[.int i tk, v] } := (sb.2 _ (Nat.ne_of_gt hel)).trans hT
    have new : ObjOk X.prog X.w (upd H s.heap.objs.size (.tup [.int (i : Nat), x])) h'' s.heap.objs.size (.tup [.int (i : Nat), x]) :=
      ⟨by show 2 ≤ sizeLine; decide, [.int i tk, v], .cons ⟨_, rfl⟩ (.cons ru .nil), ⟨_, hT2, rfl, _, rfl⟩⟩
    have I1 : Inv X pins σ (upd H s.heap.objs.size (.tup [.int (i : Nat), x])) { s with heap := h'', toks := tk + 1 } :=
      I.turnedNew (ch := [e, it]) (fun b ob hb q => (sb.2 b (fun z => hb (by simp [z]))).trans (hk b ob (fun z => hb (by simp [z])) (fun z => hb (by simp [z])) q)) hf (Nat.le_refl _) new
    refine ⟨.ref s.heap.objs.size, _, I1, rfl, ⟨_, x, rfl, I.hok.fresh (Nat.le_refl _), rfl, fun ys hy => by rw [I.tuple_inj hy hq]; exact hx⟩, ⟨⟨v, ?_⟩, hs'.1.at fun o q => (sb.2 it (Ne.symm hei)).trans q⟩, fun b hb => ?_⟩
    · have e1 : ((i + 1 : Nat) : Int) = (i : Int) + 1 := by omega
      rw [e1]; exact he'
    · have hb' : b < s.heap.objs.size := by
        have e' : b = e ∨ b = it := by simpa using hb
        rcases e' with z | z
        · rw [z]; exact hel
        · rw [z]; exact hil
      rw [upd_ne (Nat.ne_of_lt hb')]
      exact (hf b hb).1
  done := by
    intro X hP hw hK hc i pins s σ H E I hf st hg
    subst hP hw hK
    obtain ⟨⟨old, he⟩, hit⟩ := st
    obtain ⟨xs, hq, hx⟩ := hg
    obtain ⟨its, rv, p, hz⟩ := I.tuple hq
    obtain ⟨f0, f1, f2, f3, f4, f5⟩ := hf it (by simp)
    have hl := rv.length
    have hT : s.TypeIs (.ref e) "enumerate" := ⟨_, he, rfl⟩
    unfold pyNext
    refine wpAny_bind (wpAny_attempt (wpAny_callSpecial?_slot (name := Str.ofString "__next__") hT F.slot_enumerate_next
      (wpAny_call_entry F.slot_enumerate_next hT F.entry_enumerate_next ?_ (F.args_enumerate_next_1 _))))
    show wpAny _ _ (field (.ref e) 2 >>= _) _ _ _
    refine wpAny_bind (wpAny_field he rfl (x := .ref it) rfl ?_)
    refine wpAny_bind (wpAny_nextOf_tuple_end (show X.A.in1.handled = none from I.ok.hd hc) hit p (by simp; omega) fun h' x he' hx' => ?_)
    obtain ⟨o, ho, hcl⟩ := hx'
    refine wpAny_bind (wpAny_isInstance (T := "StopIteration") (b := true) ⟨o, ho, hcl⟩ isSubtype_stop ?_)
    exact wpAny_pure ⟨rfl, I.turned (t' := s.toks) (fun b o hb q => he' b o hb q) f0 f1 f3 f4 f5⟩
  self := fun A i s Q E st h => let ⟨⟨_, he⟩, _⟩ := st; wpAny_pyIter_enum he h
/-- enumerate(x), x a list or a tuple -/
def iEnumA (K : PySem.W.Frag) (ta : TA) : TI := fun σ H R => ta σ H fun vs H1 => ∃ a xs, vs = [.ref a] ∧ ((SqL K H1 a xs ∧ R (Ite K a) H1) ∨ (SqT K H1 a xs ∧ R (IteT K a) H1))
theorem pi_enumT {X : Cx} {e : Expr} {ta : TA} {p pos tpos : Pos} {elts : List Expr} {kk : Nat} (hg : Gl X "enumerate") (hm : X.mg "enumerate" = none) (ha : PA X [e] ta) (hs : starEach [e] X.env = [(false, eval e X.env)] := by rfl) :
    PI X (.Tuple elts kk tpos) (.Call (.Name "enumerate" p) [e] [] pos) (iEnumA X.K ta) := by
  refine ⟨fun pins s σ H R I h => ?_⟩
  refine Call_ (ld_blt I hg hm boot_enumerate (PyProof.Rows.callWith_type1 (thn (ha.run pos pins s σ H _ I h) fun us s1 ⟨vs, H1, I1, r1, q1⟩ => ?_) hs rfl))
  obtain ⟨a, xs, ex, q1⟩ := q1
  subst ex
  cases r1 with
  | cons r rr =>
    cases rr
    cases r
    have hfp : ∀ b ∈ [s1.heap.objs.size + 1, s1.heap.objs.size], FpOk X pins H1 b := fun b hb => by
      have e' : b = s1.heap.objs.size + 1 ∨ b = s1.heap.objs.size := by simpa using hb
      have hle : s1.heap.objs.size ≤ b := by
        rcases e' with z | z
        · rw [z]; exact Nat.le_add_right _ _
        · rw [z]; exact Nat.le_refl _
      exact I1.fpOk hle (I1.hok.fresh hle)
    rcases q1 with ⟨hq, q⟩ | ⟨hq, q⟩
    · obtain ⟨its, rv, p', hz⟩ := I1.list hq
      refine call_enumerate_list p'.isList fun h' he hit hsz hk => wpAny_pyIter_enum he ?_
      have I2 : Inv X pins σ H1 { s1 with heap := h' } := I1.kept (t' := s1.toks) hk
      exact ⟨s1.heap.objs.size + 1, [s1.heap.objs.size + 1, s1.heap.objs.size], _, _, H1, rfl, I2, turn_enum a (s1.heap.objs.size + 1) s1.heap.objs.size, ⟨⟨.none, he⟩, hit, Nat.succ_ne_self _⟩, hfp, q⟩
    · obtain ⟨its, rv, p', hz⟩ := I1.tuple hq
      obtain ⟨o1, ho1, _⟩ := id p'
      have hlt : a < s1.heap.objs.size := Heap.lt_size ho1
      refine call_enumerate_T (begins_tuple a its.toArray) p' fun h' he hit hsz hk => wpAny_pyIter_enum he ?_
      have I2 : Inv X pins σ H1 { s1 with heap := h' } := I1.kept (t' := s1.toks) hk
      exact ⟨s1.heap.objs.size + 1, [s1.heap.objs.size + 1, s1.heap.objs.size], _, _, H1, rfl, I2, turn_enumT a (s1.heap.objs.size + 1) s1.heap.objs.size (Nat.ne_of_lt hlt) (Nat.ne_of_lt (Nat.lt_succ_of_lt hlt)) (Nat.succ_ne_self _), ⟨⟨.none, he⟩, ⟨_, hit, rfl, rfl⟩⟩, hfp, q⟩
end Cp
/-! Own operators of instances with a dict: +, ==, !=, len. -/
namespace Cp
open PySem PySem.Spec PyProof.Rows L2
theorem cmpback {P : Value → Shared → Prop} {z : V} {v : Value} {s' : Shared} (r : L2.RelV z v) (h : P v s') : PySem.W.CmpBack P v s' := by
  cases z with
  | non => cases (show v = Value.none from r); exact h
  | bl b => cases (show v = Value.bool b from r); exact h
  | int i => obtain ⟨t, e⟩ := (show ∃ t, v = Value.int i t from r); cases e; exact h
  | str x => obtain ⟨t, e⟩ := (show ∃ t, v = Value.str x t from r); cases e; exact h
  | byt b => obtain ⟨t, e⟩ := (show ∃ t, v = Value.bytes b t from r); cases e; exact h
  | flt b => obtain ⟨t, e⟩ := (show ∃ t, v = Value.float b t from r); cases e; exact h
  | ref a => cases (show v = Value.ref a from r); exact h
  | ty n => cases (show v = Value.type n from r); exact h
/-- x op y, both instances of the class at C -/
def rOwnD (C : Addr) (sp : Sp) : R2 := fun x y H Q => ∃ a dx fs b dy gs, x = .ref a ∧ y = .ref b ∧ H a = some (.ins C dx fs) ∧ H b = some (.ins C dy gs) ∧ sp [x, y] H Q E0
def rOwnNe (C : Addr) (sp : Sp) : R2 := fun x y H Q => ∃ a dx fs b dy gs, x = .ref a ∧ y = .ref b ∧ H a = some (.ins C dx fs) ∧ H b = some (.ins C dy gs) ∧ sp [x, y] H (fun z H' => ∃ c, z = .bl c ∧ Q (.bl (!c)) H') E0
section
variable {X : Cx} {j k : Nat} {g C : Addr} {sp : Sp}
theorem inst_of {pins : List (Addr × Obj)} {σ : L2.St} {H : Hp} {s : Shared} {a dx : Addr} {fs : List (Str × V)} (I : Inv X pins σ H s) (e : H a = some (.ins C dx fs)) : ∃ od, PySem.W.InstAt s.heap a (PySem.W.instObj C dx) C (some od) := by
  obtain ⟨mA, O, _⟩ := ins_get I.hok e
  obtain ⟨od, J, _⟩ := O.look
  exact ⟨od, J⟩
theorem op_ownAdd (hc : PySem.W.selfFirst X.K C = true) (hm : Meth X.K C "__add__" g) (F : FnR X.prog X.w X.K X.mg X.base CX0 j g sp) (hr : Room k X.A) (hj : j ≤ k := by decide) : OpR X (binaryOp .Add) (rOwnD C sp) := by
  intro pins s σ H x y v u Q I rx ry h
  obtain ⟨a, dx, fs, b, dy, gs, rfl, rfl, ha, hb, q⟩ := h
  cases (show v = Value.ref a from rx)
  cases (show u = Value.ref b from ry)
  obtain ⟨od, J⟩ := inst_of I ha
  obtain ⟨od', J'⟩ := inst_of I hb
  obtain ⟨m, hF⟩ := I.fr
  refine PySem.W.binop_K hF I.ok.mod.kin J J'.type hc hm.at_ hm.fn ?_
  refine wpAny_mono (wpAny_call (run_fnR (us := [.ref a, .ref b]) (vs := [.ref a, .ref b]) F (hr.mono hj) pass0 I (.cons rfl (.cons rfl .nil)) q)) (fun w s' z => ?_) fun _ _ x => x
  obtain ⟨z', H', I', rz, qz⟩ := z
  exact cmpback rz ⟨z', H', I', rz, qz⟩
theorem op_ownEq (hm : Meth X.K C "__eq__" g) (F : FnR X.prog X.w X.K X.mg X.base CX0 j g sp) (hr : Room k X.A) (hj : j ≤ k := by decide) : OpR X (compareOp .Eq) (rOwnD C sp) := by
  intro pins s σ H x y v u Q I rx ry h
  obtain ⟨a, dx, fs, b, dy, gs, rfl, rfl, ha, hb, q⟩ := h
  cases (show v = Value.ref a from rx)
  cases (show u = Value.ref b from ry)
  obtain ⟨od, J⟩ := inst_of I ha
  obtain ⟨od', J'⟩ := inst_of I hb
  obtain ⟨m, hF⟩ := I.fr
  refine PySem.W.cmp_K (op := .Eq) (tb := .ref C) hr.units0 hF I.ok.mod.kin J J'.type (by simp [PySem.W.notFirst]) hm.at_ hm.fn ?_
  refine wpAny_mono (wpAny_call (run_fnR (us := [.ref a, .ref b]) (vs := [.ref a, .ref b]) F (hr.mono hj) pass0 I (.cons rfl (.cons rfl .nil)) q)) (fun w s' z => ?_) fun _ _ x => x
  obtain ⟨z', H', I', rz, qz⟩ := z
  exact cmpback rz ⟨z', H', I', rz, qz⟩
end
section
variable {prog : Program} {w : World} {A : Around} {E : Value → Shared → Prop} {s : Shared} {K : PySem.W.Frag} {x C f : Addr} {ox : Obj} {od : Option Obj} {b : Value}
/-- object.__ne__ asks the own __eq__ and turns its answer -/
theorem one_body (hu : A.units < cLine) (X : K.In s.heap) (I : PySem.W.InstAt s.heap x ox C od) (heq : PySem.W.findIn K (.ref C) "__eq__" = some (some (.ref f))) (hf : PySem.W.isFn K (.ref f) = true) {Q : Fin → Shared → Prop}
    (hcall : wpAny (model prog w) A (call (.ref f) [.ref x, b]) (fun v s' => ∃ c, v = .bool c ∧ Q (.done (.ret (.bool (!c)))) s') E s) :
    wpAny (model prog w) A (Builtin.«object.__ne__» ⟨[.ref x, b], []⟩) Q E s := by
  unfold Builtin.«object.__ne__»
  repeat (first
    | with_reducible refine wpAny_cRoomFor hu ?_
    | (refine wpAny_bind (m := callSpecialIfBound? (.ref x) (Str.ofString "__eq__") [b])
        (PySem.W.ifBound_K X I heq hf (wpAny_mono hcall (fun r s' hr => by
          obtain ⟨c, rfl, hq⟩ := hr
          repeat (first | exact hq | exact wpAny_pure hq | exact wpAny_truthy_bool hq | (refine wpAny_bind (m := truthy (.bool _)) (wpAny_truthy_bool ?_)) | wp_step)) fun _ _ e => e)))
    | wp_step)
theorem ifBound_ne {Q : Option Value → Shared → Prop} (X : K.In s.heap) (I : PySem.W.InstAt s.heap x ox C od) (hne : PySem.W.findIn K (.ref C) "__ne__" = some (some (.builtin "object.__ne__")))
    (h : wpAny (model prog w) A (call (.builtin "object.__ne__") [.ref x, b]) (fun v => Q (some v)) E s) : wpAny (model prog w) A (callSpecialIfBound? (.ref x) "__ne__" [b]) Q E s := by
  have hb := (F.slot_zip_ne).bind (.ref x)
  simp only [callSpecialIfBound?, bindSpecialIfBound?]
  refine wpAny_holding (wpAny_bind (wpAny_bind (wpAny_bind (I.type.here ((PySem.W.looks_findIn X hne).here ?_)))))
  refine wpAny_bind (wpAny_askSetting (wpAny_ite ?_))
  have fin : wpAny (model prog w) A (call (.builtin "object.__ne__") ([.ref x] ++ [b]) >>= fun v => pure (some v)) Q E s := wpAny_bind (wpAny_mono h (fun v s' h' => wpAny_pure h') fun _ _ h' => h')
  split
  · exact wpAny_bind (wpAny_of_eq hb (wpAny_pure (by exact fin)))
  · exact wpAny_tryCatch (wpAny_bind (wpAny_of_eq hb (wpAny_pure (by exact fin))))
theorem ne_ownK {Q : Value → Shared → Prop} (hu : A.units + 1 < cLine) (X : K.In s.heap) (I : PySem.W.InstAt s.heap x ox C od) (hb : PySem.W.Looks (model prog w) s.heap (typeOf b) (.ref C))
    (hne : PySem.W.findIn K (.ref C) "__ne__" = some (some (.builtin "object.__ne__"))) (ho : PySem.W.mroIn K C (.type "object") = some true) (heq : PySem.W.findIn K (.ref C) "__eq__" = some (some (.ref f))) (hf : PySem.W.isFn K (.ref f) = true)
    (hcall : wpAny (model prog w) A.in1 (call (.ref f) [.ref x, b]) (fun v s' => ∃ c, v = .bool c ∧ Q (.bool (!c)) s') E s) : wpAny (model prog w) A (richCompare .NotEq (.ref x) b) Q E s := by
  have sub : PySem.W.Looks (model prog w) s.heap (isInstance (.ref x) (.type "object")) true := I.type.andThen (PySem.W.looks_mroIn X ho)
  have one : wpAny (model prog w) A (tryCompare (.ref x) "__ne__" b) (fun r s' => ∃ c, r = some (.bool (!c)) ∧ Q (.bool (!c)) s') E s := by
    unfold tryCompare
    refine wpAny_bind (ifBound_ne X I hne (wpAny_call (codeAny_call_builtin (F.slot_zip_ne).plain F.cmpEntry_ne (PySem.W.check_slot F.cmpKind_ne F.cmpSplit_ne sub (F.cmpArgs_ne _ _)
      (one_body (A := A.in1) (Nat.lt_of_le_of_lt (Nat.le_of_eq rfl) hu) X I heq hf (wpAny_mono hcall (fun v s' hv => ?_) fun _ _ e => e))))))
    obtain ⟨c, rfl, hq⟩ := hv
    first | exact ⟨c, rfl, wpAny_pure ⟨c, rfl, hq⟩⟩ | exact ⟨c, rfl, wpAny_pure (wpAny_pure ⟨c, rfl, hq⟩)⟩
  unfold richCompare
  simp only [oneThing_ref]
  refine wpAny_holding ?_
  refine wpAny_bind (wpAny_cRoomFor (Nat.lt_of_succ_lt hu) ?_)
  rw [cmpInfo_NotEq]
  dsimp only
  refine wpAny_bind (I.type.here (wpAny_bind (hb.here ?_)))
  rw [show (Value.ref C != Value.ref C) = false from by simp]
  simp only [Bool.false_eq_true, if_false]
  refine wpAny_bind (wpAny_pure ?_)
  simp only [Bool.false_eq_true, if_false]
  refine wpAny_bind (wpAny_mono one (fun r s' z => ?_) fun _ _ e => e)
  obtain ⟨c, rfl, hq⟩ := z
  exact wpAny_pure hq
end
section
variable {X : Cx} {j k : Nat} {g C : Addr} {sp : Sp}
theorem op_ownNe (hm : Meth X.K C "__eq__" g) (hne : PySem.W.findIn X.K (.ref C) "__ne__" = some (some (.builtin "object.__ne__"))) (ho : PySem.W.mroIn X.K C (.type "object") = some true)
    (F : FnR X.prog X.w X.K X.mg X.base CX0 j g sp) (hr : Room k X.A) (hj : j + 1 ≤ k := by decide) : OpR X (compareOp .NotEq) (rOwnNe C sp) := by
  intro pins s σ H x y v u Q I rx ry h
  obtain ⟨a, dx, fs, b, dy, gs, rfl, rfl, ha, hb, q⟩ := h
  cases (show v = Value.ref a from rx)
  cases (show u = Value.ref b from ry)
  obtain ⟨od, J⟩ := inst_of I ha
  obtain ⟨od', J'⟩ := inst_of I hb
  have hr1 : Room (j + 1) X.A := hr.mono hj
  refine ne_ownK (by have := hr.units; omega) I.kIn J J'.type hne ho hm.at_ hm.fn ?_
  refine wpAny_call (codeAny_mono (F X.A.in1 X.stack s H [.ref a, .ref b] [.ref a, .ref b] _ E0 hr1.in1 I.env0.in1 (.cons rfl (.cons rfl .nil)) q) fun r s' hq => ?_)
  cases r with
  | error er => exact False.elim hq
  | ok fl =>
    cases fl with
    | ret u =>
      obtain ⟨v, H', I3, rv, c, ec, q3⟩ := I.after hq
      subst ec
      exact ⟨c, rv, .bl (!c), H', I3, rfl, q3⟩
    | next => exact False.elim hq
    | brk => exact False.elim hq
    | cont => exact False.elim hq
/-- len(x), x an instance with its own __len__ -/
def rLenOwn (C : Addr) (sp : Sp) : List V → Hp → VK → Prop := fun xs H Q => ∃ a dx fs, xs = [V.ref a] ∧ H a = some (.ins C dx fs) ∧ sp [.ref a] H (fun z H' => ∃ n : Nat, z = .int n ∧ n < 2 ^ 62 ∧ Q (.int n) H') E0
theorem call_lenOwn (hm : Meth X.K C "__len__" g) (F : FnR X.prog X.w X.K X.mg X.base CX0 j g sp) (hr : Room k X.A) (hj : j + 1 ≤ k := by decide) : CallR X (.builtin "len") (rLenOwn C sp) := by
  intro pins s σ H xs us Q I r h
  obtain ⟨a, dx, fs, rfl, ha, q⟩ := h
  obtain ⟨u, rfl, ru⟩ := vals1 r
  cases (show u = Value.ref a from ru)
  obtain ⟨od, J⟩ := inst_of I ha
  obtain ⟨m, hF⟩ := I.fr
  have hr1 : Room (j + 1) X.A := hr.mono hj
  refine PySem.W.len_K hF I.ok.mod.kin J hm.at_ hm.fn ?_
  refine wpAny_call (codeAny_mono (F X.A.in1 X.stack s H [.ref a] [.ref a] _ E0 hr1.in1 I.env0.in1 (.cons rfl .nil) q) fun r s' hq => ?_)
  cases r with
  | error er => exact False.elim hq
  | ok fl =>
    cases fl with
    | ret u =>
      obtain ⟨v, H', I3, rv, n, ec, hn, q3⟩ := I.after hq
      subst ec
      obtain ⟨t, e⟩ := (show ∃ t, u = Value.int (n : Int) t from rv)
      cases e
      exact ⟨⟨by omega, by omega⟩, .int n, H', I3.tok _, ⟨_, rfl⟩, q3⟩
    | next => exact False.elim hq
    | brk => exact False.elim hq
    | cont => exact False.elim hq
end
end Cp
/-! Rules: () and dict of a tuple. -/
namespace Cp
open PySem PySem.Spec PyProof.Rows L2
/-- the object of a tuple -/
def tupObj (o : Obj) : Prop := o.cls = .type "tuple" ∧ o.dict = none
/-- (), its object known -/
def tUnit0 : TE := fun σ H Q => ∀ p o, tupObj o → H p = none → Q (.ref p) (upd H p (.frz o (.tup [])))
/-- dict(t), t a tuple of pairs, its object known -/
def rDictT (K : PySem.W.Frag) : List V → Hp → VK → Prop := fun xs H Q => ∃ (a : Addr) (o : Obj) (ps : List Addr) (kvs : List (Key × V)), xs = [V.ref a] ∧ tupObj o ∧ H a = some (.frz o (.tup (ps.map V.ref))) ∧ Paired (fun p kv => SqT K H p [kV kv.1, kv.2]) ps kvs ∧
  ∀ p, H p = none → Q (.ref p) (upd H p (.dK (mergeK [] kvs)))
section
variable {X : Cx} {pos : Pos} {k : Nat}
theorem pe_unit0 : PE X (.Tuple [] k pos) tUnit0 := by
  refine ⟨fun pins s σ H Q I hq => ?_⟩
  refine wpAny_Tuple_spliced (thn ((pa_nil (X := X)).run pos pins s σ H (fun xs H1 => xs = [] ∧ H1 = H) I ⟨rfl, rfl⟩) fun us s1 ⟨xs, H1, I1, r, ex, eH⟩ => ⟨by rw [← r.length, ex]; decide, ?_⟩)
  subst ex eH
  cases r
  have hf : H1 s1.heap.objs.size = none := I1.hok.fresh (Nat.le_refl _)
  refine ⟨.ref s1.heap.objs.size, upd H1 s1.heap.objs.size (.frz { cls := .type "tuple", data := .seq #[] } (.tup [])), I1.laid (t' := s1.toks) (fun b u e => Heap.get?_push_of_some _ e) (Nat.le_refl _) ?_, rfl, hq _ _ ⟨rfl, rfl⟩ hf⟩
  exact ⟨Heap.get?_push_size _ rfl, by show 0 ≤ sizeLine; decide, [], .nil, ⟨_, Heap.get?_push_size _ rfl, rfl, _, rfl⟩⟩
theorem call_dictT (hcalm : X.calm = true) : CallR X (.type "dict") (rDictT X.K) := by
  intro pins s σ H xs us Q I r q
  obtain ⟨a, o, ps, kvs, ex, ⟨hc, hd⟩, hq, hp, q⟩ := q
  subst ex
  obtain ⟨u, eu, rx⟩ := vals1 r
  subst eu
  cases rx
  obtain ⟨ho, hz, its, rv, o', ho', hc', n, hdat⟩ := I.hok a _ hq
  rw [ho] at ho'
  cases ho'
  have ei := refs_at rv
  subst ei
  rw [List.length_map] at hz
  obtain ⟨prs, rel, hl, hpr⟩ := pairs_of I hp
  have key : ∀ j, j < prs.length → ∃ (b : Addr) (u : Value) (q : Key × Value), prs[j]? = some q ∧ ps[j]? = some b ∧ IsTup s.heap b #[u, q.2] ∧ keyIs q.1 u = true := fun j hj => by
    obtain ⟨b, u, h1, h2, h3⟩ := hpr j prs[j] (List.getElem?_eq_getElem hj)
    exact ⟨b, u, _, List.getElem?_eq_getElem hj, h1, h2, h3⟩
  -- the pairs' key values
  have hus0 : ∃ us : List Value, us.length = prs.length ∧ ∀ (j : Nat) (q : Key × Value), prs[j]? = some q → ∃ (b : Addr) (u : Value), us[j]? = some u ∧ ps[j]? = some b ∧ IsTup s.heap b #[u, q.2] ∧ keyIs q.1 u = true := by
    have step : ∀ m, m ≤ prs.length → ∃ us : List Value, us.length = m ∧ ∀ (j : Nat) (q : Key × Value), j < m → prs[j]? = some q → ∃ (b : Addr) (u : Value), us[j]? = some u ∧ ps[j]? = some b ∧ IsTup s.heap b #[u, q.2] ∧ keyIs q.1 u = true := by
      intro m
      induction m with
      | zero => exact fun _ => ⟨[], rfl, fun j q hj => absurd hj (Nat.not_lt_zero _)⟩
      | succ m ih =>
        intro hm
        obtain ⟨us, hl, h⟩ := ih (by omega)
        obtain ⟨b, u, q, e1, e2, e3, e4⟩ := key m (by omega)
        refine ⟨us ++ [u], by simp [hl], fun j q' hj e => ?_⟩
        by_cases hjm : j < m
        · obtain ⟨b', u', f1, f2⟩ := h j q' hjm e
          exact ⟨b', u', by rw [List.getElem?_append_left (by omega)]; exact f1, f2⟩
        · have : j = m := by omega
          subst this
          rw [e1] at e
          cases e
          exact ⟨b, u, by rw [List.getElem?_append_right (by omega), hl]; simp, e2, e3, e4⟩
    obtain ⟨us, h1, h2⟩ := step prs.length (Nat.le_refl _)
    exact ⟨us, h1, fun j q e => h2 j q (List.getElem?_eq_some_iff.mp e).1 e⟩
  obtain ⟨us, hul, hus⟩ := hus0
  generalize hpp : us.zip (prs.map (·.2)) = pp
  have hppl : pp.length = prs.length := by rw [← hpp]; simp [hul]
  have hpp_at : ∀ (j : Nat) (k v : Value), pp[j]? = some (k, v) → ∃ q, prs[j]? = some q ∧ us[j]? = some k ∧ q.2 = v := fun j k v e => by
    rw [← hpp, List.getElem?_zip_eq_some] at e
    obtain ⟨e1, e2⟩ := e
    rw [List.getElem?_map] at e2
    cases e3 : prs[j]? with
    | none => rw [e3] at e2; cases e2
    | some q => rw [e3] at e2; exact ⟨q, rfl, e1, Option.some.inj e2⟩
  refine PySem.call_dict_pairs (knd := mixKind X.prog X.w) (kvs := prs) (PairArg.tuple a ((ps.map Value.ref).toArray) (fun j => (ps[j]?).getD 0) pp) (I.ok.hd hcalm) ⟨⟨_, n, ho, hc, hd, hdat⟩, ?_, ?_⟩ ?_ ?_ fun h' tk hd' k => ?_
  · simp [hppl, hl]
  · intro j k v e
    obtain ⟨q, e1, e2, e3⟩ := hpp_at j k v e
    obtain ⟨b, u, f1, f2, f3, f4⟩ := hus j q e1
    rw [e2] at f1
    cases f1
    subst e3
    refine ⟨by simp [f2], .inl ?_⟩
    show s.heap.IsTuple ((ps[j]?).getD 0) #[k, q.snd]
    rw [f2]
    exact f3
  · refine ⟨hppl.symm, fun i key v e => ?_⟩
    obtain ⟨q, e1, e2, e3⟩ := hpp_at i key v e
    obtain ⟨b, u, f1, f2, f3, f4⟩ := hus i q e1
    rw [e2] at f1
    cases f1
    subst e3
    exact ⟨q.1, e1, f4⟩
  · rw [hppl, hl]; exact hz
  · have hm : (s.heap.objs.size == sysModules) = false := beq_eq_false_iff_ne.mpr (Nat.ne_of_gt I.big)
    have hlen : (mergeK [] kvs).length ≤ sizeLine := by
      refine Nat.le_trans (length_mergeK kvs []) ?_
      rw [List.length_nil, Nat.zero_add, rel.length, hl]
      exact hz
    exact ⟨.ref s.heap.objs.size, upd H s.heap.objs.size (.dK (mergeK [] kvs)), I.laid (t' := tk) (fun b o e => k b o (by simp) e) (Nat.le_refl _) (show ObjOk X.prog X.w _ _ _ (.dK (mergeK [] kvs)) from ⟨hlen, hm, merged [] prs, KV.merge rel .nil, hd'⟩), rfl, q _ (I.hok.fresh (Nat.le_refl _))⟩
end
end Cp
/-! Rules: a local name = a dict comprehension in one line; get of a written dict; a target with a star. -/
namespace Cp
open PySem PySem.Spec PyProof.Rows L2
section
variable {X : Cx}
theorem ps_setDc {i : Nat} {y : Str} {py : Pos} {kx vx tg iter : Expr} {ifs : List Expr} {scope : Scope} {own : List (Str × Nat)} {pos spos : Pos} {wi : TI} {g : TG} {tt : TT} {tk tv : TE} (hc : X.calm = true) (hN : X.N.Nodup) (hy : X.N[i]? = some y) (hyl : X.env.scope.names.lookup y = some .local)
    (hsw : swapsWith (.DictComp kx vx [⟨tg, iter, ifs, 0⟩] scope pos) (some (.Name y py)) spos.line X.env = pure true) (hi : PI X tg iter wi) (ok : BlkOk X.N X.env.scope scope own)
    (hg : ∀ (s : Shared) (H : Hp) (C : Addr) (cl : List (Str × Addr)) (fp : List Addr), PG (X.blk s H scope (compEnvC scope cl C X.env) fp) tg g) (ht : ∀ (s : Shared) (H : Hp) (C : Addr) (cl : List (Str × Addr)) (fp : List Addr), PTs (X.blk s H scope (compEnvC scope cl C X.env) fp) ifs tt)
    (hk : ∀ (s : Shared) (H : Hp) (C : Addr) (cl : List (Str × Addr)) (fp : List Addr), PE (X.blk s H scope (compEnvC scope cl C X.env) fp) kx tk)
    (he : ∀ (s : Shared) (H : Hp) (C : Addr) (cl : List (Str × Addr)) (fp : List Addr), PE (X.blk s H scope (compEnvC scope cl C X.env) fp) vx tv) (hs : ∀ x, foldedSetIterable iter X.env x = pure x := by intro _; rfl) :
    PS X (.Assign [.Name y py] (.DictComp kx vx [⟨tg, iter, ifs, 0⟩] scope pos) spos) (tAsg (tDc wi g tt tk tv (own.map (·.2))) (gName i)) := by
  refine ⟨fun pins s σ H D I h => ?_⟩
  rw [exec_Assign_Name_used _ _ _ _ hsw]
  refine wpAny_bind (wpAny_standAt (wpAny_bind ?_))
  have h : tDc wi g tt tk tv (own.map (·.2)) σ H (fun x H1 => gName i x σ H1 D.nx) := h
  refine wpAny_bind (thn (dc_core (Qf := fun _ s' => SP X pins D .next s') hc hN I hi ok hg ht hk he hs h fun L C s' m H' I' q hn f => ?_) fun _ s' hq => wpAny_pure (wpAny_pure hq))
  show wpAny _ _ (assign (.Name y py) X.env (.ref L)) _ _ _
  refine wpAny_assign_Name (store_ok2 (v := V.ref L) I' hN hy (.inl hyl) rfl (fun s2 I2 ⟨a, sb, ha⟩ => ?_) (.inr hyl))
  obtain ⟨f0, f1, f2, f3, f4, f5⟩ := f
  have haC : C ≠ a := by
    rcases ha with z | z
    · rw [z]; exact f1
    · exact fun e => f4 y a z e.symm
  refine ⟨m, hn.sameBut sb haC, fun h3 sb3 => ?_⟩
  exact ⟨_, H', I2.turned (t' := s2.toks) (fun b o hb e => (sb3.2 b hb).trans e) f0 f1 f3 f4 f5, q⟩
theorem sw_trueD {kx vx : Expr} {gs : List Comprehension} {scope : Scope} {pos py : Pos} {y : Str} {l : Nat} {env : Env} (hk : env.scope.kind = .function) (hy : env.scope.names.lookup y = some .local) (hl : (py.line == pos.line) = true)
    (ha : (scope.names.any fun (n, k) => n == y && (k == .local || k == .cell)) = false) : swapsWith (.DictComp kx vx gs scope pos) (some (.Name y py)) l env = pure true := by
  have ky : env.kindOf y = some .local := hy
  have hb : env.blockKind = .function := by unfold Env.blockKind; rw [hk]; rfl
  unfold swapsWith
  simp only [hb, ky, ha, Expr.pos, hl]
  rfl
end
/-! ### get of a written dict -/
def tKDGet2 (K : PySem.W.Frag) (d : Addr) (ty tx : TE) : TE := fun σ H Q => ty σ H fun y H1 => tx σ H1 fun z H2 => ∃ (k : Str) (r : Option Value), y = .str k ∧ PySem.W.nsIn K d k = some r ∧ (∀ u, r = some u → ∃ v, RelV v u ∧ Q v H2) ∧ (r = none → Q z H2)
section
variable {X : Cx} {o e f : Expr} {apos cpos : Pos} {ty tx : TE} {d : Addr} {es : Array DictEntry} {n : Nat} {td : TE}
theorem pe_kdget2 (D : KDict X.K X.w d es n) (ho : PE X o (tC (.ref d))) (he : PE X e ty) (hf : PE X f tx) (m : M2 X o "get" apos e f cpos) : PE X (.Call (.Attribute o "get" apos) [e, f] [] cpos) (tKDGet2 X.K d ty tx) := by
  refine ⟨fun pins s σ H Q I h => ?_⟩
  refine wpAny_Call_method m.base m.few m.line PySem.F.plainAttrs_dict PySem.F.slot_dict_get PySem.F.type_dict_get (thn (ho.run pins s σ H (fun x H1 => x = .ref d ∧ tKDGet2 X.K d ty tx σ H1 Q) I ⟨rfl, h⟩) fun u s1 ⟨x, H1, I1, rx, ex, q1⟩ => ?_)
  subst ex
  obtain rfl : u = Value.ref d := rx
  have mo := PySem.W.mapOf_K (prog := X.prog) (w := X.w) I1.kIn D.at_ D.lit
  refine ⟨mo.typeIs, mo.noDict, ?_⟩
  rw [m.trees]
  refine Calls.callWith_builtin rfl (Calls.evalArgs_plain (Calls.spliced_cons (thn (he.run pins s1 σ H1 _ I1 q1) fun iv s2 ⟨y, H2, I2, ry, q2⟩ =>
    Calls.spliced_cons (thn (hf.run pins s2 σ H2 _ I2 q2) fun fv s3 ⟨z, H3, I3, rz, k, r, ey, hr, qs, qn⟩ => Calls.spliced_nil ?_))))
  subst ey
  obtain ⟨t, rfl⟩ := ry
  have mo3 := PySem.W.mapOf_K (prog := X.prog) (w := X.w) I3.kIn D.at_ D.lit
  refine call_meetsIn PySem.F.slot_dict_get mo3.typeIs PySem.F.entry_dict_get (PySem.F.args_dict_get_3 _ _ _) (meets_dict_get_default _ d (strKind_is X.prog X.w k t) D.low fv) ⟨_, mo3, ?_⟩
  rw [PySem.W.find_K D.at_ hr]
  cases r with
  | none => exact ⟨z, H3, I3.tok _, rz, qn rfl⟩
  | some u =>
    obtain ⟨v, rv, qv⟩ := qs u rfl
    exact ⟨v, H3, I3.tok _, rv, qv⟩
end
end Cp
/-! A rule: a, *b = a tuple. -/
namespace Cp
open PySem PySem.Spec PyProof.Rows L2
section
variable {prog : Program} {w : World} {A : Around} {E : Value → Shared → Prop} {s : Shared}
theorem star_items {l : Addr} {x : Value} {rest : List Value} {Q : List Value → Shared → Prop} (hl : IsTup s.heap l (x :: rest).toArray) (hh : A.handled = none) (hz : rest.length ≤ 1000)
    (h : ∀ (h' : Heap) (tk : Nat), (∀ b o, s.heap.get? b = some o → h'.get? b = some o) → Q [x, .ref h'.objs.size] { s with heap := h'.push { cls := .type "list", data := .seq rest.toArray }, toks := tk }) :
    wpAny (model prog w) A (unpackItems (.ref l) 2 (some 1)) Q E s := by
  have hlt : l ≠ s.heap.objs.size := by obtain ⟨o, ho, _⟩ := hl; exact Nat.ne_of_lt (Heap.lt_size ho)
  unfold unpackItems
  refine wpAny_bind ?_
  unfold notIterableAtAll
  refine wpAny_bind (wpAny_specialOf hl.typeIs PySem.F.slot_tuple_iter.lookup ?_)
  refine wpAny_pure ?_
  simp only [Bool.false_eq_true, if_false]
  refine wpAny_bind (wpAny_holding (iter_tuple hl ?_))
  refine wpAny_bind (wpAny_holding (draw_tuple hlt 1 0 _ _ ⟨_, Heap.get?_push_size _ rfl, rfl, rfl⟩ (hl.push _) (by simp) fun h₁ hit₁ hs₁ => ?_))
  have hl₁ : IsTup h₁ l (x :: rest).toArray := (hl.push _).extBut hs₁.extBut hlt
  rw [Nat.zero_add] at hit₁
  have hit₁' := hit₁
  obtain ⟨oi, hoi, _⟩ := hit₁'
  have hl₁' := hl₁
  obtain ⟨ol, hol, _⟩ := hl₁'
  rw [List.drop_zero]
  show wpAny _ _ (if [x].length < 1 then _ else _) _ _ _
  rw [if_neg (by simp)]
  refine wpAny_bind (wpAny_holding (PySem.W.kun_collect (s := { s with heap := h₁ }) (T := "tuple_iterator") (.inr (.inr (.inr rfl))) (Walks.tuple (A := A.in1) hh s.heap.objs.size l hlt _) (fun j u st => st.1.typeIs) (k := 1) (by simp) ⟨hit₁, hl₁⟩ (Heap.lt_size hoi) (Heap.lt_size hol) (fun h₂ tk hk => ?_) (by rw [sizeLine_eq]; simp; omega)))
  have he : ∀ b o, s.heap.get? b = some o → h₂.get? b = some o := fun b o e => hk b o (Nat.ne_of_lt (Heap.lt_size e)) (hs₁.extBut b o (Nat.ne_of_lt (Heap.lt_size e)) (Heap.get?_push_of_some _ e))
  show wpAny _ _ (if rest.length < 0 then _ else _) _ _ _
  rw [if_neg (Nat.not_lt_zero _)]
  show wpAny _ _ (newList (rest.take (rest.length - 0)) >>= fun d => pure ([x] ++ [d] ++ rest.drop (rest.length - 0))) _ _ _
  rw [Nat.sub_zero, List.take_length, List.drop_length]
  exact wpAny_bind (wpAny_newList (s := { s with heap := h₂, toks := tk }) (wpAny_pure (h h₂ tk he)) (by rw [sizeLine_eq]; omega))
end
/-- (a, *b) = a tuple -/
def gStar1 (K : PySem.W.Frag) (t1 t2 : TG) : TG := fun v σ H Q => ∃ a x xs, v = .ref a ∧ SqT K H a (x :: xs) ∧ xs.length ≤ 1000 ∧ ∀ D, H D = none → t1 x σ (upd H D (.lst xs)) fun σ1 H1 => t2 (.ref D) σ1 H1 Q
section
variable {X : Cx} {t p : Expr} {t1 t2 : TG} {k : Nat} {sp pos : Pos}
theorem pg_star1 (hc : X.calm = true) (h1 : PG X t t1) (h2 : PG X p t2) (he : assignEach [t, .Starred p sp] X.env = [(false, assign t X.env), (true, assign p X.env)] := by rfl) : PG X (.Tuple [t, .Starred p sp] k pos) (gStar1 X.K t1 t2) := by
  refine ⟨fun pins s σ H v u Q I r hw => ?_⟩
  obtain ⟨a, x, xs, e1, hq, hl, hw⟩ := hw
  subst e1
  cases r
  obtain ⟨its, rv, ht, hz⟩ := I.tuple hq
  cases rv with
  | cons rx rr =>
    rename_i ux us
    rw [assign_Tuple]
    refine wpAny_bind (wpAny_standAt ?_)
    unfold unpack
    rw [he]
    have hus : us.length ≤ 1000 := by rw [← rr.length]; exact hl
    refine wpAny_bind (wpAny_holding (star_items ht (I.ok.hd hc) hus fun h' tk hk => ?_))
    have I0 : Inv X pins σ H { s with heap := h', toks := tk } := I.kept (t' := tk) hk
    have hn : H h'.objs.size = none := I0.hok.fresh (Nat.le_refl _)
    have I1 : Inv X pins σ (upd H h'.objs.size (.lst xs)) { s with heap := h'.push { cls := .type "list", data := .seq us.toArray }, toks := tk } :=
      I0.laid (t' := tk) (fun b o e => Heap.get?_push_of_some _ e) (Nat.le_refl _) ⟨by rw [sizeLine_eq]; omega, us, 0, rr, Heap.get?_push_size _ rfl⟩
    refine assignInOrder_cons (thn (h1.run pins _ σ _ _ _ _ I1 rx (hw _ hn)) fun _ s1 ⟨σ1, H1, I2, q1⟩ => ?_)
    refine assignInOrder_cons (thn (h2.run pins s1 σ1 H1 (.ref h'.objs.size) _ Q I2 rfl q1) fun _ s2 ⟨σ2, H2, I3, q2⟩ => ?_)
    exact assignInOrder_nil ⟨σ2, H2, I3, q2⟩
end
end Cp
/-! list(zip(x, y)) of two tuples. -/
namespace Cp
open PySem PySem.Spec PyProof.Rows
open PySem.Sem (wp)
/-- a zip whose own tuple has been handed out -/
abbrev ZipO (h : Heap) (z TI TO a : Addr) (f : Bool) : Prop := h.get? z = some { cls := .type "zip", data := .fields #[rawInt a, .bool f, .bool false, .ref TI, .ref TO] }
section
variable {prog : Program} {w : World} {A : Around} {E : Value → Shared → Prop} {s : Shared}
theorem zipO_free {z TI TO a : Addr} {f : Bool} {oa : Obj} {Q : Bool → Shared → Prop} (hz : ZipO s.heap z TI TO a f) (ha : s.heap.get? a = some oa) (haz : a ≠ z)
    (h : ∀ h', ZipO h' z TI TO a true → Heap.SameBut z s.heap h' → Q false { s with heap := h' }) : wpAny (model prog w) A (Builtin.SmallTypes.ownedTupleIsFree (.ref z)) Q E s := by
  unfold Builtin.SmallTypes.ownedTupleIsFree
  refine wpAny_bind (wpAny_field hz rfl (x := rawInt a) rfl ?_)
  show wpAny _ _ (loadIfAlive ((a : Int).toNat) >>= _) _ _ _
  rw [Int.toNat_natCast]
  refine wpAny_bind (PySem.W.kdx_alive ha ?_)
  simp only [Option.isNone_some, Bool.false_eq_true, if_false]
  refine wpAny_bind (wpAny_field hz rfl (x := .bool f) rfl ?_)
  cases f with
  | true =>
    rw [if_neg (show ¬ ((Value.bool true != Value.bool true) = true) from Bool.false_ne_true)]
    exact wpAny_pure (h s.heap hz (Heap.SameBut.refl _ _))
  | false =>
    rw [if_pos (show (Value.bool false != Value.bool true) = true from rfl)]
    refine wpAny_bind (wpAny_setField_rec hz (by simp) fun h₃ he₃ hs₃ => ?_)
    exact wpAny_pure (h h₃ he₃ hs₃)
theorem zipO_item {z TI TO i1 i2 l1 l2 a : Addr} {f : Bool} {oa : Obj} {k1 k2 : Nat} {xs ys : Array Value} {x y : Value} {Q : Option Value → Shared → Prop} (D : ZipApart z TI TO i1 i2 l1 l2)
    (hz : ZipO s.heap z TI TO a f) (hTI : IsPair s.heap TI (.ref i1) (.ref i2)) (ha : s.heap.get? a = some oa) (haz : a ≠ z)
    (h1 : s.heap.IsTupleIter i1 l1 k1) (h2 : s.heap.IsTupleIter i2 l2 k2) (hl1 : s.heap.IsTuple l1 xs) (hl2 : s.heap.IsTuple l2 ys) (hx : xs[k1]? = some x) (hy : ys[k2]? = some y)
    (hQ : ∀ h', ZipO h' z TI TO a true → h'.IsTupleIter i1 l1 (k1 + 1) → h'.IsTupleIter i2 l2 (k2 + 1) → IsPair h' s.heap.objs.size x y → h'.objs.size = s.heap.objs.size + 1 →
      (∀ c o, c ≠ z → c ≠ i1 → c ≠ i2 → s.heap.get? c = some o → h'.get? c = some o) → Q (some (.ref s.heap.objs.size)) { s with heap := h' }) :
    wpAny (model prog w) A (pyNext (.ref z)) Q E s := by
  have hT : s.TypeIs (.ref z) "zip" := ⟨_, hz, rfl⟩
  unfold pyNext
  refine wpAny_bind (wpAny_attempt (wpAny_callSpecial?_slot (name := Str.ofString "__next__") hT F.slot_zip_next (wpAny_call_entry F.slot_zip_next hT F.entry_zip_next ?_ (F.args_zip_next_1 _))))
  show wpAny _ _ (field (.ref z) 2 >>= _) _ _ _
  refine wpAny_bind (wpAny_field hz rfl (x := .bool false) rfl ?_)
  show wpAny _ _ (field (.ref z) 3 >>= _) _ _ _
  refine wpAny_bind (wpAny_field hz rfl (x := .ref TI) rfl ?_)
  refine wpAny_bind (wpAny_seqItems hTI rfl ?_)
  show wpAny _ _ (Builtin.SmallTypes.ownedTupleIsFree (.ref z) >>= _) _ _ _
  refine wpAny_bind (zipO_free hz ha haz fun h₁ hz₁ hs₁ => ?_)
  simp only [Bool.false_eq_true, if_false]
  rw [show (#[Value.ref i1, Value.ref i2] : Array Value) = [Value.ref i1, Value.ref i2].toArray from rfl, List.forIn_toArray]
  simp only [List.forIn_cons, List.forIn_nil]
  refine wpAny_bind (wpAny_bind (wpAny_bind (wpAny_holding ?_)))
  show wpAny _ _ (Builtin.SmallTypes.nextOf (.ref i1) >>= _) _ _ _
  refine wpAny_bind (RZ.nextOf_tuple_item (h1.extBut hs₁.extBut D.i1z) (hl1.extBut hs₁.extBut D.l1z) hx fun h₂ h1₂ hs₂ => wpAny_pure ?_)
  refine wpAny_pure (wpAny_bind (wpAny_bind (wpAny_holding ?_)))
  show wpAny _ _ (Builtin.SmallTypes.nextOf (.ref i2) >>= _) _ _ _
  refine wpAny_bind (RZ.nextOf_tuple_item ((h2.extBut hs₁.extBut D.i2z).extBut hs₂.extBut D.i12.symm) ((hl2.extBut hs₁.extBut D.l2z).extBut hs₂.extBut D.l2i1) hy fun h₃ h2₃ hs₃ => wpAny_pure ?_)
  refine wpAny_pure (wpAny_pure ?_)
  refine wpAny_bind (wpAny_newTuple (wpAny_pure ?_) (by show 2 ≤ sizeLine; decide))
  have hsz : h₃.objs.size = s.heap.objs.size := by rw [hs₃.1, hs₂.1, hs₁.1]
  have hk₃ : ∀ c o, c ≠ z → c ≠ i1 → c ≠ i2 → s.heap.get? c = some o → h₃.get? c = some o := fun c o c1 c2 c3 e => hs₃.extBut _ _ c3 (hs₂.extBut _ _ c2 (hs₁.extBut _ _ c1 e))
  have hz₃ : ZipO h₃ z TI TO a true := hs₃.extBut _ _ D.i2z.symm (hs₂.extBut _ _ D.i1z.symm hz₁)
  refine ⟨_, rfl, wpAny_pure ?_⟩
  have key := hQ (h₃.push { cls := .type "tuple", data := .seq #[x, y] }) (Heap.get?_push_of_some _ hz₃) ((h1₂.extBut hs₃.extBut D.i12).at fun o e => Heap.get?_push_of_some _ e) (h2₃.at fun o e => Heap.get?_push_of_some _ e)
    (by rw [← hsz]; exact Heap.get?_push_size _ rfl) (by rw [Heap.size_push, hsz]) fun c o c1 c2 c3 e => Heap.get?_push_of_some _ (hk₃ c o c1 c2 c3 e)
  rw [← hsz] at key
  exact key
theorem zipO_end {z TI TO i1 i2 l1 l2 a : Addr} {f : Bool} {oa : Obj} {k1 k2 : Nat} {xs ys : Array Value} {Q : Option Value → Shared → Prop} (hh : A.handled = none) (D : ZipApart z TI TO i1 i2 l1 l2)
    (hz : ZipO s.heap z TI TO a f) (hTI : IsPair s.heap TI (.ref i1) (.ref i2)) (ha : s.heap.get? a = some oa) (haz : a ≠ z)
    (h1 : s.heap.IsTupleIter i1 l1 k1) (hl1 : s.heap.IsTuple l1 xs) (hx : xs[k1]? = none)
    (hQ : ∀ h', (∀ c o, c ≠ z → c ≠ i1 → c ≠ i2 → s.heap.get? c = some o → h'.get? c = some o) → Q none { s with heap := h' }) :
    wpAny (model prog w) A (pyNext (.ref z)) Q E s := by
  have hT : s.TypeIs (.ref z) "zip" := ⟨_, hz, rfl⟩
  unfold pyNext
  refine wpAny_bind (wpAny_attempt (wpAny_callSpecial?_slot (name := Str.ofString "__next__") hT F.slot_zip_next (wpAny_call_entry F.slot_zip_next hT F.entry_zip_next ?_ (F.args_zip_next_1 _))))
  show wpAny _ _ (field (.ref z) 2 >>= _) _ _ _
  refine wpAny_bind (wpAny_field hz rfl (x := .bool false) rfl ?_)
  show wpAny _ _ (field (.ref z) 3 >>= _) _ _ _
  refine wpAny_bind (wpAny_field hz rfl (x := .ref TI) rfl ?_)
  refine wpAny_bind (wpAny_seqItems hTI rfl ?_)
  show wpAny _ _ (Builtin.SmallTypes.ownedTupleIsFree (.ref z) >>= _) _ _ _
  refine wpAny_bind (zipO_free hz ha haz fun h₁ hz₁ hs₁ => ?_)
  simp only [Bool.false_eq_true, if_false]
  rw [show (#[Value.ref i1, Value.ref i2] : Array Value) = [Value.ref i1, Value.ref i2].toArray from rfl, List.forIn_toArray]
  simp only [List.forIn_cons, List.forIn_nil]
  refine wpAny_bind (wpAny_bind (wpAny_bind (wpAny_holding ?_)))
  show wpAny _ _ (Builtin.SmallTypes.nextOf (.ref i1) >>= _) _ _ _
  refine wpAny_bind (RZ.nextOf_tuple_end hh (h1.extBut hs₁.extBut D.i1z) (hl1.extBut hs₁.extBut D.l1z) hx fun h₂ e hs₂ he => ?_)
  obtain ⟨o, ho, hc⟩ := he
  refine wpAny_bind (wpAny_isInstance (T := "StopIteration") (b := true) ⟨o, ho, hc⟩ isSubtype_stop ?_)
  exact wpAny_pure (hQ _ fun c o c1 c2 c3 e => hs₂ _ _ c2 (hs₁.extBut _ _ c1 e))
end
structure ZSt (h : Heap) (z TI TO i1 i2 l1 l2 S : Addr) (xs ys : Array Value) (i : Nat) : Prop where
  ti : IsPair h TI (.ref i1) (.ref i2)
  it1 : h.IsTupleIter i1 l1 i
  it2 : h.IsTupleIter i2 l2 i
  t1 : h.IsTuple l1 xs
  t2 : h.IsTuple l2 ys
  own : (i = 0 ∧ IsZip h z TI TO .none ∧ ∃ a b, IsPair h TO a b) ∨ ∃ a f oa, ZipO h z TI TO a f ∧ h.get? a = some oa ∧ S < a
structure ZGood (h : Heap) (S : Addr) (xs ys : Array Value) (as : List Addr) : Prop where
  rise : as.Pairwise (· < ·)
  above : ∀ a ∈ as, S < a
  pairs : ∀ (j : Nat) (a : Addr), as[j]? = some a → ∃ x y, xs[j]? = some x ∧ ys[j]? = some y ∧ h.get? a = some { cls := .type "tuple", data := .seq #[x, y] }
theorem ZGood.there {h : Heap} {S : Addr} {xs ys : Array Value} {as : List Addr} (g : ZGood h S xs ys as) {a : Addr} (ha : a ∈ as) : a < h.objs.size := by
  obtain ⟨j, hj⟩ := List.mem_iff_getElem?.mp ha
  obtain ⟨_, _, _, _, e⟩ := g.pairs j a hj
  exact Heap.lt_size e
theorem far {S c z : Addr} (h : z < S) (hc : S ≤ c) : c ≠ z := fun e => absurd (Nat.lt_of_lt_of_le h hc) (by rw [e]; exact Nat.lt_irrefl _)
structure ZLow (z TI TO i1 i2 l1 l2 S : Addr) : Prop where
  z : z < S
  ti : TI < S
  to_ : TO < S
  i1 : i1 < S
  i2 : i2 < S
  l1 : l1 < S
  l2 : l2 < S
section
variable {prog : Program} {w : World} {A : Around} {s : Shared} {R : Result → Shared → Prop} {z TI TO i1 i2 l1 l2 S : Addr} {xs ys : Array Value}
theorem zl_next {E : Value → Shared → Prop} {i : Nat} {x y : Value} {Q : Option Value → Shared → Prop} (D : ZipApart z TI TO i1 i2 l1 l2) (lw : ZLow z TI TO i1 i2 l1 l2 S) (hS : S < s.heap.objs.size) (st : ZSt s.heap z TI TO i1 i2 l1 l2 S xs ys i) (hx : xs[i]? = some x) (hy : ys[i]? = some y)
    (hQ : ∀ h', ZSt h' z TI TO i1 i2 l1 l2 S xs ys (i + 1) → IsPair h' s.heap.objs.size x y → h'.objs.size = s.heap.objs.size + 1 → (∀ c o, S ≤ c → s.heap.get? c = some o → h'.get? c = some o) → (∀ c o, c ≠ z → c ≠ TO → c ≠ i1 → c ≠ i2 → s.heap.get? c = some o → h'.get? c = some o) → Q (some (.ref s.heap.objs.size)) { s with heap := h' }) :
    wpAny (model prog w) A (pyNext (.ref z)) Q E s := by
  obtain ⟨a1, a2, a3, a4, a5, a6⟩ := st
  obtain ⟨b1, b2, b3, b4, b5, b6, b7⟩ := lw
  rcases a6 with ⟨_, hz, a, b, hTO⟩ | ⟨a, f, oa, hz, ha, haS⟩
  · refine RZ.pyNext_zipT_item D hz a1 hTO a2 a3 a4 a5 hx hy fun h' k1 k2 k3 k4 k5 k6 k7 => ?_
    refine hQ h' ⟨k7 _ _ D.TIz D.TITO D.TIi1 D.TIi2 a1, k3, k4, a4.at fun o e => k7 _ o D.l1z D.l1TO D.l1i1 D.l1i2 e, a5.at fun o e => k7 _ o D.l2z D.l2TO D.l2i1 D.l2i2 e, .inr ⟨s.heap.objs.size, false, _, k1, k5, hS⟩⟩ k5 k6 (fun c o hc e => k7 c o (far b1 hc) (far b3 hc) (far b4 hc) (far b5 hc) e) k7
  · refine zipO_item D hz a1 ha (far b1 (Nat.le_of_lt haS)) a2 a3 a4 a5 hx hy fun h' k1 k3 k4 k5 k6 k7 => ?_
    refine hQ h' ⟨k7 _ _ D.TIz D.TIi1 D.TIi2 a1, k3, k4, a4.at fun o e => k7 _ o D.l1z D.l1i1 D.l1i2 e, a5.at fun o e => k7 _ o D.l2z D.l2i1 D.l2i2 e, .inr ⟨a, true, _, k1, k7 _ _ (far b1 (Nat.le_of_lt haS)) (far b4 (Nat.le_of_lt haS)) (far b5 (Nat.le_of_lt haS)) ha, haS⟩⟩ k5 k6 (fun c o hc e => k7 c o (far b1 hc) (far b4 hc) (far b5 hc) e) fun c o c1 _ c2 c3 e => k7 c o c1 c2 c3 e
theorem zl_stop {E : Value → Shared → Prop} {i : Nat} {Q : Option Value → Shared → Prop} (hh : A.handled = none) (D : ZipApart z TI TO i1 i2 l1 l2) (lw : ZLow z TI TO i1 i2 l1 l2 S) (st : ZSt s.heap z TI TO i1 i2 l1 l2 S xs ys i) (hx : xs[i]? = none)
    (hQ : ∀ h', (∀ c o, c ≠ z → c ≠ TO → c ≠ i1 → c ≠ i2 → s.heap.get? c = some o → h'.get? c = some o) → Q none { s with heap := h' }) : wpAny (model prog w) A (pyNext (.ref z)) Q E s := by
  obtain ⟨a1, a2, a3, a4, a5, a6⟩ := st
  obtain ⟨b1, b2, b3, b4, b5, b6, b7⟩ := lw
  rcases a6 with ⟨_, hz, a, b, hTO⟩ | ⟨a, f, oa, hz, ha, haS⟩
  · exact RZ.pyNext_zipT_end hh D hz a1 hTO a2 a3 a4 a5 (.inl hx) fun h' k => hQ h' k
  · exact zipO_end (k2 := 0) (ys := #[]) hh D hz a1 ha (far b1 (Nat.le_of_lt haS)) a2 a4 hx fun h' k => hQ h' fun c o c1 _ c2 c3 e => k c o c1 c2 c3 e
theorem zl_loop (hh : A.handled = none) (D : ZipApart z TI TO i1 i2 l1 l2) (lw : ZLow z TI TO i1 i2 l1 l2 S) {n : Nat} (hxs : xs.size = n) (hys : ys.size = n) (hn : n ≤ 10000) (res : Value) {h₁ : Heap}
    (hR : ∀ h' tk acc c as, (∀ b o, b < S → b ≠ z → b ≠ TO → b ≠ i1 → b ≠ i2 → h₁.get? b = some o → h'.get? b = some o) → h'.get? S = some { cls := .type "list", dict := none, data := .seq acc c, slots := #[] } → as.length = n → ZGood h' S xs ys as →
      acc.toList = as.map Value.ref → R (.ok (.ret res)) { s with heap := h', toks := tk }) :
    ∀ (k i : Nat) (h : Heap) (tk c : Nat) (acc : Array Value) (as : List Addr), n - i = k → i ≤ n → ZSt h z TI TO i1 i2 l1 l2 S xs ys i → (∀ b o, b < S → b ≠ z → b ≠ TO → b ≠ i1 → b ≠ i2 → h₁.get? b = some o → h.get? b = some o) →
      h.get? S = some { cls := .type "list", dict := none, data := .seq acc c, slots := #[] } → acc.toList = as.map Value.ref → as.length = i → ZGood h S xs ys as →
      codeAny (model prog w) A (.builtin "list.extend.loop" ⟨[.ref S, .ref z, res], []⟩) R { s with heap := h, toks := tk } := by
  obtain ⟨b1, b2, b3, b4, b5, b6, b7⟩ := id lw
  intro k
  induction k with
  | zero =>
    intro i h tk c acc as hk hi hst hkeep hS hacc hal hG
    have hin : i = n := by omega
    refine codeAny_builtin PySem.F.entry_extend_loop ?_
    rw [Around.under_plainId PySem.F.plain_extend_loop _]
    show wpAny _ A.in1 (pyNext (.ref z) >>= _) _ _ _
    refine wpAny_bind (zl_stop (s := { s with heap := h, toks := tk }) (A := A.in1) hh D lw hst (Array.getElem?_eq_none (by omega)) fun h' he => ?_)
    refine wpAny_pure (hR h' tk acc c as (fun b o h0 h1 h2 h3 h4 e => he b o h1 h2 h3 h4 (hkeep b o h0 h1 h2 h3 h4 e)) (he S _ (far b1 (Nat.le_refl _)) (far b3 (Nat.le_refl _)) (far b4 (Nat.le_refl _)) (far b5 (Nat.le_refl _)) hS) (by omega) ⟨hG.rise, hG.above, fun j a hj => ?_⟩ hacc)
    obtain ⟨x, y, e1, e2, e3⟩ := hG.pairs j a hj
    have := hG.above a (List.mem_of_getElem? hj)
    exact ⟨x, y, e1, e2, he a _ (far b1 (Nat.le_of_lt this)) (far b3 (Nat.le_of_lt this)) (far b4 (Nat.le_of_lt this)) (far b5 (Nat.le_of_lt this)) e3⟩
  | succ k ih =>
    intro i h tk c acc as hk hi hst hkeep hS hacc hal hG
    have hlt : i < n := by omega
    have hx : xs[i]? = some xs[i] := Array.getElem?_eq_getElem (by omega)
    have hy : ys[i]? = some ys[i] := Array.getElem?_eq_getElem (by omega)
    have hsz : acc.size = i := by rw [← Array.length_toList, hacc, List.length_map, hal]
    have hSl : S < h.objs.size := Heap.lt_size hS
    refine codeAny_builtin PySem.F.entry_extend_loop ?_
    rw [Around.under_plainId PySem.F.plain_extend_loop _]
    show wpAny _ A.in1 (pyNext (.ref z) >>= _) _ _ _
    refine wpAny_bind (zl_next (s := { s with heap := h, toks := tk }) (S := S) D lw hSl hst hx hy fun h' hst' ht hz hkp hkq => ?_)
    dsimp only at ht hz hkp hkq ⊢
    have hS' := hkp S _ (Nat.le_refl _) hS
    have up : ∀ b o, b ≠ S → h'.get? b = some o → (h'.update S (Obj.mapSeq (·.push (Value.ref h.objs.size)))).get? b = some o := fun b o hb e => (Heap.get?_update_other _ _ (Ne.symm hb)).trans e
    show wpAny _ A.in1 (updateSeq S (·.push (Value.ref h.objs.size)) >>= _) _ _ _
    refine wpAny_bind ?_
    obtain ⟨a1, a2, a3, a4, a5, a6⟩ := hst'
    refine wpAny_updateSeq hS' rfl (wpAny_pure ⟨plainId_quiet PySem.F.plain_extend_loop _, ih (i + 1) _ tk _ (acc.push (Value.ref h.objs.size)) (as ++ [h.objs.size]) (by omega) hlt
      ⟨up _ _ (Nat.ne_of_lt b2) a1, a2.at fun o e => up _ o (Nat.ne_of_lt b4) e, a3.at fun o e => up _ o (Nat.ne_of_lt b5) e, a4.at fun o e => up _ o (Nat.ne_of_lt b6) e, a5.at fun o e => up _ o (Nat.ne_of_lt b7) e, ?_⟩
      (fun b o h0 h1 h2 h3 h4 e => up b o (Nat.ne_of_lt h0) (hkq b o h1 h2 h3 h4 (hkeep b o h0 h1 h2 h3 h4 e))) (Heap.get?_update_self _ hS' rfl) (by rw [Array.toList_push, hacc, List.map_append]; rfl) (by rw [List.length_append, hal]; rfl) ⟨?_, ?_, ?_⟩⟩) (by rw [hsz, sizeLine_eq]; omega) (by show (acc.push (Value.ref h.objs.size)).size ≤ sizeLine + 1; rw [Array.size_push, hsz, sizeLine_eq]; omega)
    · rcases a6 with ⟨q, _⟩ | ⟨a, f, oa, q1, q2, q3⟩
      · cases q
      · exact .inr ⟨a, f, oa, up _ _ (Nat.ne_of_lt b1) q1, up _ _ (Nat.ne_of_gt q3) q2, q3⟩
    · refine List.pairwise_append.mpr ⟨hG.rise, List.pairwise_singleton _ _, fun a ha b hb => ?_⟩
      rw [List.mem_singleton.mp hb]
      exact hG.there ha
    · intro a ha
      rcases List.mem_append.mp ha with ha | ha
      · exact hG.above a ha
      · rw [List.mem_singleton.mp ha]; exact hSl
    · intro j b hj
      rcases Nat.lt_trichotomy j as.length with h1 | h1 | h1
      · rw [List.getElem?_append_left h1] at hj
        obtain ⟨x', y', e1, e2, e3⟩ := hG.pairs j b hj
        have hb := hG.above b (List.mem_of_getElem? hj)
        exact ⟨x', y', e1, e2, up b _ (Nat.ne_of_gt hb) (hkp b _ (Nat.le_of_lt hb) e3)⟩
      · subst h1
        have hb : h.objs.size = b := by simpa using hj
        subst hb
        exact ⟨_, _, by rw [hal]; exact hx, by rw [hal]; exact hy, up _ _ (Nat.ne_of_gt hSl) ht⟩
      · have hnone : (as ++ [h.objs.size])[j]? = none := List.getElem?_eq_none (by rw [List.length_append, List.length_singleton]; omega)
        rw [hnone] at hj; cases hj
end
theorem nolen_zip : typeLookup (.type "zip") "__len__" = pure none := by rw [typeLookup_type, builtinLookup_eq_fast]; kernel_rfl
theorem nohint_zip : typeLookup (.type "zip") "__length_hint__" = pure none := by rw [typeLookup_type, builtinLookup_eq_fast]; kernel_rfl
section
variable {prog : Program} {w : World} {A : Around} {E : Value → Shared → Prop} {s : Shared} {z TI TO i1 i2 l1 l2 : Addr} {xs ys : Array Value} {n : Nat}
theorem zl_call {a0 b0 : Value} {Q : Value → Shared → Prop} (hh : A.handled = none) (D : ZipApart z TI TO i1 i2 l1 l2) (hxs : xs.size = n) (hys : ys.size = n) (hn : n ≤ 10000)
    (hz : IsZip s.heap z TI TO .none) (hTI : IsPair s.heap TI (.ref i1) (.ref i2)) (hTO : IsPair s.heap TO a0 b0) (h1 : s.heap.IsTupleIter i1 l1 0) (h2 : s.heap.IsTupleIter i2 l2 0) (hl1 : s.heap.IsTuple l1 xs) (hl2 : s.heap.IsTuple l2 ys)
    (hQ : ∀ h' tk acc c as, (∀ b o, b ≠ z → b ≠ TO → b ≠ i1 → b ≠ i2 → s.heap.get? b = some o → h'.get? b = some o) → h'.get? s.heap.objs.size = some { cls := .type "list", dict := none, data := .seq acc c, slots := #[] } → as.length = n → ZGood h' s.heap.objs.size xs ys as →
      acc.toList = as.map Value.ref → Q (.ref s.heap.objs.size) { s with heap := h', toks := tk }) :
    wpAny (model prog w) A (call (.type "list") [.ref z]) Q E s := by
  have lw : ZLow z TI TO i1 i2 l1 l2 s.heap.objs.size := ⟨Heap.lt_size hz, Heap.lt_size hTI, Heap.lt_size hTO, let ⟨_, e, _⟩ := h1; Heap.lt_size e, let ⟨_, e, _⟩ := h2; Heap.lt_size e, let ⟨_, e, _⟩ := hl1; Heap.lt_size e, let ⟨_, e, _⟩ := hl2; Heap.lt_size e⟩
  refine callType_codes (Q₁ := fun obj s₁ => obj = .ref s.heap.objs.size ∧ s₁ = { s with heap := s.heap.push { cls := .type "list", data := .seq #[] } }) PySem.F.called_list (PySem.F.typeCall_list_1 _) PySem.F.entry_list_init
    (code_list_new _ ⟨rfl, rfl⟩) fun obj s₁ h₁ => ?_
  obtain ⟨rfl, rfl⟩ := h₁
  have hS : (s.heap.push { cls := .type "list", data := .seq #[] }).get? s.heap.objs.size = some { cls := .type "list", data := .seq #[] } := Heap.get?_push_size _ rfl
  refine ⟨⟨_, hS, rfl⟩, PySem.F.args_list_init_2 _ _, ?_⟩
  show wpAny _ _ (do let old ← Builtin.List.listItems (.ref s.heap.objs.size); Builtin.List.listUpdate (.ref s.heap.objs.size) (fun _ => #[]); letGo old.toList.reverse; Builtin.List.listExtendWith (.ref s.heap.objs.size) (.ref z) .none) _ _ _
  refine wpAny_bind ?_
  unfold Builtin.List.listItems
  refine wpAny_bind (wpAny_seqItems hS rfl (wpAny_pure ?_))
  show wpAny _ _ (updateSeq s.heap.objs.size (fun _ => #[]) >>= fun _ => letGo (#[] : Array Value).toList.reverse >>= fun _ => Builtin.List.listExtendWith (.ref s.heap.objs.size) (.ref z) .none) _ _ _
  refine wpAny_bind (wpAny_updateSeq hS rfl ?_)
  have hS₂ := Heap.get?_update_self (Obj.mapSeq (fun _ => (#[] : Array Value))) hS rfl
  refine wpAny_bind (wpAny_letGo ?_)
  have k0 : ∀ b o, s.heap.get? b = some o → ((s.heap.push { cls := .type "list", data := .seq #[] }).update s.heap.objs.size (Obj.mapSeq (fun _ => (#[] : Array Value)))).get? b = some o :=
    fun b o e => (Heap.get?_update_other _ _ (Ne.symm (Nat.ne_of_lt (Heap.lt_size e)))).trans (Heap.get?_push_of_some _ e)
  generalize hg : (s.heap.push { cls := .type "list", data := .seq #[] }).update s.heap.objs.size (Obj.mapSeq (fun _ => (#[] : Array Value))) = h0 at hS₂ k0 ⊢
  have hz0 : IsZip h0 z TI TO .none := k0 _ _ hz
  have hT : Shared.TypeIs { s with heap := h0 } (.ref z) "zip" := ⟨_, hz0, rfl⟩
  have hSz : s.heap.objs.size ≠ z := Nat.ne_of_gt lw.z
  unfold Builtin.List.listExtendWith
  refine wpAny_bind (wpAny_typeOf (T := "zip") hT ?_)
  have e1 : Builtin.List.listSameRef (.ref s.heap.objs.size) (.ref z) = false := by simp [Builtin.List.listSameRef, hSz]
  have e2 : (Value.type "zip" == Value.type "list") = false := by decide
  have e3 : (Value.type "zip" == Value.type "tuple") = false := by decide
  simp only [e1, e2, e3, Bool.or_false, Bool.false_eq_true, if_false]
  refine wpAny_bind (wpAny_pyIter_zip (s := { s with heap := h0 }) hz0 ?_)
  refine wpAny_bind (wpAny_holding ?_)
  unfold Builtin.List.listLengthHint
  refine wpAny_bind (wpAny_specialOf hT nolen_zip ?_)
  show wpAny _ _ (specialOf (Value.ref z) (Str.ofString "__length_hint__") >>= _) _ _ _
  refine wpAny_bind (wpAny_specialOf hT nohint_zip ?_)
  refine wpAny_pure ?_
  show wpAny _ _ (rule "list.extend.makes-room" >>= fun _ => Builtin.List.listTouch (.ref s.heap.objs.size) >>= fun _ => again (.builtin "list.extend.loop" ⟨[.ref s.heap.objs.size, .ref z, .none], []⟩)) _ _ _
  refine wpAny_bind (wpAny_rule ?_)
  refine wpAny_bind ?_
  show wpAny _ _ (updateSeq s.heap.objs.size (·.push .none) >>= fun _ => updateSeq s.heap.objs.size (·.pop)) _ _ _
  refine wpAny_bind (wpAny_updateSeq (s := { s with heap := h0 }) hS₂ rfl ?_)
  have hS₃ := Heap.get?_update_self (Obj.mapSeq (·.push Value.none)) hS₂ rfl
  refine wpAny_updateSeq (hz := by seq_fits) hS₃ rfl ?_
  have hS₄ := Heap.get?_update_self (Obj.mapSeq (·.pop)) hS₃ rfl
  have k4 : ∀ b o, s.heap.get? b = some o → ((h0.update s.heap.objs.size (Obj.mapSeq (·.push Value.none))).update s.heap.objs.size (Obj.mapSeq (·.pop))).get? b = some o := fun b o e =>
    (Heap.get?_update_other _ _ (Ne.symm (Nat.ne_of_lt (Heap.lt_size e)))).trans ((Heap.get?_update_other _ _ (Ne.symm (Nat.ne_of_lt (Heap.lt_size e)))).trans (k0 b o e))
  refine wpAny_pure ⟨plainId_quiet PySem.F.plain_extend_loop _, ?_⟩
  refine zl_loop (A := A.in1) (s := s) (h₁ := s.heap) (show A.in1.handled = none from hh) D lw hxs hys hn .none (fun h' tk acc c as hk hS' hl hG hacc => ?_) n 0 _ s.toks _ #[] [] (Nat.sub_zero _) (Nat.zero_le _)
    ⟨k4 _ _ hTI, h1.at fun o e => k4 _ o e, h2.at fun o e => k4 _ o e, hl1.at fun o e => k4 _ o e, hl2.at fun o e => k4 _ o e, .inl ⟨rfl, k4 _ _ hz, _, _, k4 _ _ hTO⟩⟩ (fun b o _ _ _ _ _ e => k4 b o e) hS₄ rfl rfl ⟨List.Pairwise.nil, (fun _ ha => nomatch ha), (fun j a hj => by simp at hj)⟩
  exact ⟨rfl, hQ h' tk acc c as (fun b o h1 h2 h3 h4 e => hk b o (Heap.lt_size e) h1 h2 h3 h4 e) hS' hl hG hacc⟩
end

open L2
def putP : Hp → List Addr → List (V × V) → Hp
  | H, a :: as, p :: ps => putP (upd H a (.tup [p.1, p.2])) as ps
  | H, _, _ => H
theorem putP_off {b : Addr} : ∀ (as : List Addr) (ps : List (V × V)) (H : Hp), b ∉ as → putP H as ps b = H b
  | [], _, _, _ => rfl
  | _ :: _, [], _, _ => rfl
  | a :: as, p :: ps, H, h => by
    show putP (upd H a (.tup [p.1, p.2])) as ps b = H b
    rw [putP_off as ps _ (fun z => h (List.mem_cons_of_mem _ z)), upd_ne (fun z => h (by rw [z]; exact List.mem_cons_self))]
theorem putP_at : ∀ (as : List Addr) (ps : List (V × V)) (H : Hp), as.length = ps.length → as.Nodup → ∀ (i : Nat) (t : Addr) (p : V × V), as[i]? = some t → ps[i]? = some p → putP H as ps t = some (.tup [p.1, p.2])
  | [], _, _, _, _, i, t, p, e, _ => by simp at e
  | _ :: _, [], _, h, _, _, _, _, _, _ => by cases h
  | a :: as, q :: ps, H, h, hn, i, t, p, e1, e2 => by
    have hn' := List.nodup_cons.mp hn
    show putP (upd H a (.tup [q.1, q.2])) as ps t = _
    cases i with
    | zero =>
      cases e1; cases e2
      rw [putP_off as ps _ hn'.1, upd_same]
    | succ i => exact putP_at as ps _ (Nat.succ.inj h) hn'.2 i t p (by simpa using e1) (by simpa using e2)
theorem vals_refs' : ∀ as : List Addr, Vals (as.map V.ref) (as.map Value.ref)
  | [] => .nil
  | _ :: as => .cons rfl (vals_refs' as)
/-- list(zip(x, y)) -/
def tListZip (K : PySem.W.Frag) (ta : TA) : TE := fun σ H Q => ta σ H fun vs H1 => ∃ a b xs ys, vs = [V.ref a, V.ref b] ∧ SqT K H1 a xs ∧ SqT K H1 b ys ∧ xs.length = ys.length ∧ xs.length ≤ 1000 ∧
  ∀ (H' : Hp) (p : Addr) (ts : List Addr), Same H1 H' → H1 p = none → H' p = some (.lst (ts.map V.ref)) → Rel2 (fun t (q : V × V) => H' t = some (.tup [q.1, q.2])) ts (xs.zip ys) → Q (.ref p) H'
section
variable {X : Cx} {e e2 : Expr} {ta : TA} {p p2 pos pos2 : Pos}
theorem pe_listZip (hc : X.calm = true) (hg : Gl X "list") (hm : X.mg "list" = none) (hg2 : Gl X "zip") (hm2 : X.mg "zip" = none) (ha : PA X [e, e2] ta)
    (hs : starEach [e, e2] X.env = (false, eval e X.env) :: starEach [e2] X.env := by rfl) (hpl : (backTo pos2 (starEach [e2] X.env)).any (·.1) = false := by rfl)
    (na : starEach [.Call (.Name "zip" p2) [e, e2] [] pos2] X.env = (false, eval (.Call (.Name "zip" p2) [e, e2] [] pos2) X.env) :: starEach [] X.env := by rfl) :
    PE X (.Call (.Name "list" p) [.Call (.Name "zip" p2) [e, e2] [] pos2] [] pos) (tListZip X.K ta) := by
  refine ⟨fun pins s σ H Q I h => ?_⟩
  refine Call_ (ld_blt I hg hm PyProof.Rows.boot_list (PyProof.Rows.callWith_type1 (args_cons (Call_ (ld_blt I hg2 hm2 PyProof.Rows.boot_zip (PyProof.Rows.callWith_type1 (thn (ha.run pos2 pins s σ H _ I h) fun us s1 ⟨vs, H1, I1, r1, q1⟩ => ?_) hs hpl))) na) na))
  obtain ⟨a, b, xs, ys, ex, hqx, hqy, hlen, hz1000, q⟩ := q1
  subst ex
  cases r1 with
  | cons r rr =>
    cases rr with
    | cons r' rr =>
      cases rr
      cases r
      cases r'
      obtain ⟨its, rv, p1, _⟩ := I1.tuple hqx
      obtain ⟨its2, rv2, p2, _⟩ := I1.tuple hqy
      obtain ⟨o1, ho1, _⟩ := id p1
      obtain ⟨o2, ho2, _⟩ := id p2
      refine RZ.call_zipT (show s1.heap.IsTuple a its.toArray from p1) (show s1.heap.IsTuple b its2.toArray from p2) fun h' hz hTI hTO h1 h2 hsz hk => args_nil ?_
      have l1 := rv.length
      have l2 := rv2.length
      refine zl_call (s := { s1 with heap := h' }) (n := xs.length) (I.ok.hd hc) (PySem.W.ktu_apart s1.heap.objs.size a b (Heap.lt_size ho1) (Heap.lt_size ho2)) (xs := its.toArray) (ys := its2.toArray) (by simp; omega) (by simp; omega) (by omega) hz hTI hTO h1 h2
        (show h'.IsTuple a its.toArray from let ⟨o, ho, x⟩ := p1; ⟨o, hk _ _ ho, x⟩) (show h'.IsTuple b its2.toArray from let ⟨o, ho, x⟩ := p2; ⟨o, hk _ _ ho, x⟩) fun h'' tk acc c as hk2 hS hl hG hacc => ?_
      have lt : ∀ c o, s1.heap.get? c = some o → c < s1.heap.objs.size := fun c o e => Heap.lt_size e
      have hkk : ∀ b o, s1.heap.get? b = some o → h''.get? b = some o := fun b o e => hk2 b o (Nat.ne_of_lt (Nat.lt_of_lt_of_le (lt _ _ e) (Nat.le_add_right _ _))) (Nat.ne_of_lt (Nat.lt_of_lt_of_le (lt _ _ e) (Nat.le_add_right _ _))) (Nat.ne_of_lt (lt _ _ e)) (Nat.ne_of_lt (Nat.lt_of_lt_of_le (lt _ _ e) (Nat.le_add_right _ _))) (hk _ _ e)
      have hsz' : h'.objs.size = s1.heap.objs.size + 5 := hsz
      have hSge : s1.heap.objs.size ≤ h'.objs.size := by rw [hsz']; exact Nat.le_add_right _ _
      have above : ∀ t ∈ as, s1.heap.objs.size < t := fun t ht => Nat.lt_of_le_of_lt hSge (hG.above t ht)
      have hSn : h'.objs.size ∉ as := fun z => Nat.lt_irrefl _ (hG.above _ z)
      have nd : as.Nodup := List.Pairwise.imp (fun {a b} (h : a < b) => Nat.ne_of_lt h) hG.rise
      have new : ∀ t ∈ as, H1 t = none := fun t ht => I1.hok.fresh (Nat.le_of_lt (above t ht))
      have newS : H1 h'.objs.size = none := I1.hok.fresh hSge
      have lps : as.length = (xs.zip ys).length := by simp; omega
      have atP := putP_at as (xs.zip ys) (upd H1 h'.objs.size (.lst (as.map V.ref))) lps nd
      have off : ∀ b, b ∉ as → b ≠ h'.objs.size → putP (upd H1 h'.objs.size (.lst (as.map V.ref))) as (xs.zip ys) b = H1 b := fun b h1 h2 => by rw [putP_off as _ _ h1, upd_ne h2]
      have kp : ∀ b u, H1 b = some u → (putP (upd H1 h'.objs.size (.lst (as.map V.ref))) as (xs.zip ys)) b = some u := fun b u e => by
        rw [off b (fun z => by rw [new b z] at e; cases e) (fun z => by rw [z, newS] at e; cases e)]
        exact e
      have eS : putP (upd H1 h'.objs.size (.lst (as.map V.ref))) as (xs.zip ys) h'.objs.size = some (.lst (as.map V.ref)) := by rw [putP_off as _ _ hSn, upd_same]
      refine ⟨.ref h'.objs.size, putP (upd H1 h'.objs.size (.lst (as.map V.ref))) as (xs.zip ys), ?_, rfl, q _ _ as (fun b u e => kp b u e) newS eS ⟨lps, fun i t p e1 e2 => atP i t p e1 e2⟩⟩
      refine I1.call' (ch := []) rfl ⟨fun b o q _ _ _ => hkk b o q, fun b o q _ _ _ => ⟨o.slots, hkk b o q⟩, fun b o q n _ => ?_, fun b o q _ => ⟨o, hkk b o q⟩, fun b xs q => kp b _ q, fun b o u q => kp b _ q, fun b ps q => ⟨#[], by rw [kp b _ q]; simp⟩⟩ (fun b u q => ?_) I1.bare fun b z => by simp at z
      · have hb : b < s1.heap.objs.size := lt _ _ q
        rw [off b (fun z => absurd hb (Nat.not_lt.mpr (Nat.le_of_lt (above b z)))) (Nat.ne_of_lt (Nat.lt_of_lt_of_le hb hSge))]
        exact n
      · by_cases hb : b ∈ as
        · obtain ⟨j, hj⟩ := List.mem_iff_getElem?.mp hb
          have hjl : j < (xs.zip ys).length := by rw [← lps]; exact (List.getElem?_eq_some_iff.mp hj).1
          have e2 : (xs.zip ys)[j]? = some (xs.zip ys)[j] := List.getElem?_eq_getElem hjl
          rw [atP j b _ hj e2] at q
          cases q
          obtain ⟨u1, u2, f1, f2, f3⟩ := hG.pairs j b hj
          rw [List.getElem?_zip_eq_some] at e2
          obtain ⟨v1, g1, g2⟩ := rv.get e2.1
          obtain ⟨v2, g3, g4⟩ := rv2.get e2.2
          have t1 : its[j]? = some u1 := by simpa using f1
          have z1 : v1 = u1 := by rw [g1] at t1; exact Option.some.inj t1
          have t2 : its2[j]? = some u2 := by simpa using f2
          have z2 : v2 = u2 := by rw [g3] at t2; exact Option.some.inj t2
          subst z1 z2
          exact ⟨by show 2 ≤ sizeLine; decide, [v1, v2], .cons g2 (.cons g4 .nil), ⟨_, f3, rfl, _, rfl⟩⟩
        · by_cases hb2 : b = h'.objs.size
          · rw [hb2] at q ⊢
            rw [eS] at q
            cases q
            refine ⟨by rw [List.length_map, hl, sizeLine_eq]; omega, acc.toList, c, by rw [hacc]; exact vals_refs' as, ?_⟩
            rw [Array.toArray_toList]
            exact hS
          · rw [off b hb hb2] at q
            exact (I1.hok b u q).stay (fun d v _ y => hkk d v y) (fun d y => kp d _ y) fun d xs y => kp d _ y
end
end Cp
/-! Data on the heap; small defs. -/
namespace Cp
open PySem PySem.Spec PyProof.Rows L2
/-! ### what stays -/
section
variable {K : PySem.W.Frag} {H H1 H' : Hp} {a p : Addr} {u o : HO} {xs : List V}
theorem Same.rd (e : Same H H') (h : Rd H a u) : Rd H' a u := h.elim (fun h => .inl (e _ _ h)) fun ⟨o, h⟩ => .inr ⟨o, e _ _ h⟩
theorem Same.sqt (e : Same H H') (h : SqT K H a xs) : SqT K H' a xs := h.elim (fun h => .inl (Same.rd e h)) .inr
theorem Same.sql (e : Same H H') (h : SqL K H a xs) : SqL K H' a xs := h.elim (fun h => .inl (Same.rd e h)) .inr
theorem Same.new (h : H p = none) : Same H (upd H p o) := fun b v q => by rw [upd_ne (ne_of_none q h)]; exact q
theorem Same.add (e : Same H H1) (h : H1 p = none) : Same H (upd H1 p o) := e.trans (Same.new h)
/-- a new thing may still change -/
theorem Same.mut (e : Same H H1) (h : H p = none) : Same H (upd H1 p o) := fun b v q => by rw [upd_ne (ne_of_none q h)]; exact e b v q
theorem upd_two {H : Hp} {a : Addr} {o u : HO} : upd (upd H a o) a u = upd H a u := upd_upd
theorem Same.to_upd (e : Same H H1) (h : H1 p = some o) (hp : H p = none) : Same (upd H p o) H1 := fun b v q => by
  by_cases hb : b = p
  · subst hb; rw [upd_same] at q; cases q; exact h
  · rw [upd_ne hb] at q; exact e b v q
/-- .. between two states of it -/
theorem Same.swap {o u : HO} (e : Same (upd H p o) H1) (hp : H p = none) : Same (upd H p u) (upd H1 p u) := fun b v q => by
  by_cases hb : b = p
  · subst hb; rw [upd_same] at q ⊢; exact q
  · rw [upd_ne hb] at q ⊢; exact e b v (by rw [upd_ne hb]; exact q)
end
abbrev nInts (ns : List Nat) : List V := List.map (fun n : Nat => V.int (n : Int)) ns
def CellAt (K : PySem.W.Frag) (H : Hp) (p : Addr) (c : Nat × Nat) : Prop := SqT K H p [.int (c.1 : Int), .int (c.2 : Int)]
def CellsT (K : PySem.W.Frag) (H : Hp) (a : Addr) (cs : List (Nat × Nat)) : Prop := ∃ as : List Addr, SqT K H a (as.map V.ref) ∧ Rel2 (CellAt K H) as cs
def CellsL (K : PySem.W.Frag) (H : Hp) (a : Addr) (cs : List (Nat × Nat)) : Prop := ∃ as : List Addr, SqL K H a (as.map V.ref) ∧ Rel2 (CellAt K H) as cs
def OrdAt (K : PySem.W.Frag) (H : Hp) (a : Addr) (ps : List Nat) : Prop := ∃ dx t, H a = some (.ins (gA "Order" K) dx [("entries", .ref t)]) ∧ SqT K H t (nInts ps)
/-- the attributes of a network -/
def nf (n : Nat) (j e h : Addr) : List (Str × V) := [("bits", .int (n : Int)), ("joins", .ref j), ("ends", .ref e), ("held", .ref h)]
def HeldAt (H : Hp) (h : Addr) : Prop := ∃ o, tupObj o ∧ H h = some (.frz o (.tup []))
def NetAt (K : PySem.W.Frag) (r : Bool) (H : Hp) (a : Addr) (M : Net) : Prop := ∃ dx j e h, H a = some (.ins (gN r K) dx (nf M.n j e h)) ∧ CellsT K H j M.cs ∧ SqT K H e (nInts M.os) ∧ HeldAt H h
section
variable {K : PySem.W.Frag} {H H' : Hp} {a p : Addr} {xs : List V}
theorem CellAt.mono {c : Nat × Nat} (s : Same H H') (h : CellAt K H p c) : CellAt K H' p c := Same.sqt s h
theorem CellsT.mono {cs : List (Nat × Nat)} (s : Same H H') (h : CellsT K H a cs) : CellsT K H' a cs :=
  let ⟨as, h1, h2⟩ := h; ⟨as, Same.sqt s h1, h2.imp fun _ _ q => CellAt.mono s q⟩
theorem CellsL.mono {cs : List (Nat × Nat)} (s : Same H H') (h : CellsL K H a cs) : CellsL K H' a cs :=
  let ⟨as, h1, h2⟩ := h; ⟨as, Same.sql s h1, h2.imp fun _ _ q => CellAt.mono s q⟩
theorem OrdAt.mono {ps : List Nat} (s : Same H H') (h : OrdAt K H a ps) : OrdAt K H' a ps := let ⟨dx, t, h1, h2⟩ := h; ⟨dx, t, s _ _ h1, Same.sqt s h2⟩
theorem NetAt.mono {r : Bool} {M : Net} (s : Same H H') (h : NetAt K r H a M) : NetAt K r H' a M :=
  let ⟨dx, j, e, hd, h1, h2, h3, h4⟩ := h; ⟨dx, j, e, hd, s _ _ h1, CellsT.mono s h2, Same.sqt s h3, let ⟨o, k1, k2⟩ := h4; ⟨o, k1, s _ _ k2⟩⟩
theorem nf_bits {n : Nat} {j e h : Addr} : (nf n j e h).lookup ("bits" : Str) = some (.int (n : Int)) := rfl
theorem nf_joins {n : Nat} {j e h : Addr} : (nf n j e h).lookup ("joins" : Str) = some (.ref j) := rfl
theorem nf_ends {n : Nat} {j e h : Addr} : (nf n j e h).lookup ("ends" : Str) = some (.ref e) := rfl
theorem nf_held {n : Nat} {j e h : Addr} : (nf n j e h).lookup ("held" : Str) = some (.ref h) := rfl
theorem tyx_tup (h : SqT K H a xs) : TyX K H (.ref a) (.type "tuple") := by
  rcases h with (h | ⟨o, h⟩) | ⟨o, its, n, h1, h2, _⟩
  · exact .base (.tup h)
  · exact .fTuple h
  · exact .kTuple h1 h2
theorem tyx_lst (h : SqL K H a xs) : TyX K H (.ref a) (.type "list") := by
  rcases h with (h | ⟨o, h⟩) | ⟨o, its, n, h1, h2, _⟩
  · exact .base (.lst h)
  · exact .base (.frz h)
  · exact .kList h1 h2
theorem flat_ints (ns : List Nat) : (nInts ns).all flatV = true := by
  induction ns with
  | nil => rfl
  | cons n ns ih => show (true && (nInts ns).all flatV) = true; rw [ih]; rfl
theorem inV_ints (x : Nat) (ns : List Nat) : inV (.int (x : Int)) (nInts ns) = decide (x ∈ ns) := by
  induction ns with
  | nil => rfl
  | cons n ns ih =>
    have e : inV (.int (x : Int)) (nInts (n :: ns)) = (eqV (.int (n : Int)) (.int (x : Int)) || inV (.int (x : Int)) (nInts ns)) := rfl
    rw [e, ih]
    have e2 : eqV (.int (n : Int)) (.int (x : Int)) = decide (x = n) := by
      show (((n : Int) == (x : Int))) = decide (x = n)
      by_cases h : x = n
      · subst h; simp
      · have : ¬ ((n : Int) = (x : Int)) := by omega
        simp [h, this]
    rw [e2]
    by_cases h : x = n
    · subst h; simp
    · simp [h]
theorem nInts_get {ns : List Nat} {i : Nat} {v : V} (h : (nInts ns)[i]? = some v) : ∃ n, ns[i]? = some n ∧ v = .int (n : Int) := by
  rw [List.getElem?_map] at h
  cases e : ns[i]? with
  | none => rw [e] at h; cases h
  | some n => rw [e] at h; exact ⟨n, rfl, (Option.some.inj h).symm⟩
theorem refs_get {as : List Addr} {i : Nat} {v : V} (h : (as.map V.ref)[i]? = some v) : ∃ n, as[i]? = some n ∧ v = .ref n := by
  rw [List.getElem?_map] at h
  cases e : as[i]? with
  | none => rw [e] at h; cases h
  | some n => rw [e] at h; exact ⟨n, rfl, (Option.some.inj h).symm⟩
theorem get_nInts {ns : List Nat} {i n : Nat} (h : ns[i]? = some n) : (nInts ns)[i]? = some (.int (n : Int)) := by
  rw [List.getElem?_map, h]; rfl
theorem get_refs {as : List Addr} {i : Nat} {a : Addr} (h : as[i]? = some a) : (as.map V.ref)[i]? = some (.ref a) := by
  rw [List.getElem?_map, h]; rfl
theorem get2 {l : List Nat} {i : Nat} {x : Nat} (h : l[i]? = some x) : l.getD i 0 = x := by rw [List.getD_eq_getElem?_getD, h]; rfl
end
theorem sz10 {n : Nat} (h : n ≤ 10000) : n ≤ sizeLine := Nat.le_trans h (by decide)
theorem sz9 {n : Nat} (h : n ≤ 10000) : n < sizeLine := Nat.lt_of_le_of_lt h (by decide)

/-! ### is_row, is_sequence, is_cell -/
def spRow (K : PySem.W.Frag) : Sp := fun vs H Q _ => ∃ (a : Addr) (xs : List V) (n : Int), vs = [.ref a, .int n] ∧ SqT K H a xs ∧ Q (.bl (decide ((xs.length : Int) = n))) H
theorem sc_is_row : FnScope ["value", "length"] ["value", "length"] (defScope s_is_row) := ⟨rfl, rfl, rfl, by decide +kernel, rfl, by decide +kernel, by decide +kernel⟩
def spSeq (K : PySem.W.Frag) : Sp := fun vs H Q _ => ∃ (a : Addr), vs = [.ref a] ∧ ((∃ xs, SqT K H a xs) ∨ ∃ xs, SqL K H a xs) ∧ ∀ H', Same H H' → Q (.bl true) H'
theorem sc_is_sequence : FnScope ["value"] ["value"] (defScope s_is_sequence) := ⟨rfl, rfl, rfl, by decide +kernel, rfl, by decide +kernel, by decide +kernel⟩
/-- a cell that may stand there -/
def spCell2 (K : PySem.W.Frag) : Sp := fun vs H Q _ => ∃ (a : Addr) (c : Nat × Nat) (l t : Int), vs = [.ref a, .int l, .int t] ∧ CellAt K H a c ∧ (l ≤ c.1 ∧ (c.1 : Int) ≤ t - 1 ∧ l ≤ c.2 ∧ (c.2 : Int) ≤ t - 1) ∧ Q (.bl true) H
theorem sc_is_cell : FnScope ["value", "lowest", "top"] ["value", "lowest", "top"] (defScope s_is_cell) := ⟨rfl, rfl, rfl, by decide +kernel, rfl, by decide +kernel, by decide +kernel⟩
section
variable {P : Program} {w : World} {K : PySem.W.Frag} {mg : Str → Option Value} {base : Heap}
theorem ok_is_row (T : Txt w K mg) : FnR P w K mg base CX0 1 (gA "is_row" K) (spRow K) := by
  obtain ⟨fd, F⟩ := T.f_is_row
  refine mkR F sc_is_row (fun _ _ _ _ _ _ us hl => match us, hl with | [_, _], _ => rfl) (fun vs H Q E h => ?_) (fun cdv A outer s H vs Q E hr h => ?_)
  · obtain ⟨a, xs, n, rfl, _⟩ := h
    rfl
  · obtain ⟨a, xs, n, rfl, ha, q⟩ := h
    have nd := sc_is_row.nd
    refine ⟨_, (pss_one (ps_ret (pe_and (pe_callB call_isi (by rfl) T.b_isinstance (by decide +kernel) (pa_cons (pv 0) (pa_cons (pe_bltn (v := .ty "tuple") (by rfl) T.b_tuple (by decide +kernel) rfl) pa_nil))) (pe_one (pe_cmpR op_eq (pe_callB call_len (by rfl) T.b_len (by decide +kernel) (pa_cons (pv 0) pa_nil)) (pv 1) (nomark _)))))), ?_⟩
    refine ⟨_, rfl, _, _, _, _, true, rfl, .ty "tuple", tyx_tup ha, kit_ty (by decide +kernel), true, rfl, iteT ?_⟩
    refine ⟨_, rfl, _, xs.length, rfl, .inr ⟨xs, ha, rfl⟩, _, rfl, rfl, ?_⟩
    have e : decide (V.int ((xs.length : Nat) : Int) = V.int n) = decide (((xs.length : Nat) : Int) = n) := by
      by_cases h : ((xs.length : Nat) : Int) = n
      · rw [h]; simp
      · rw [decide_eq_false h, decide_eq_false fun z => h (V.int.inj z)]
    show Q (.bl (decide (V.int ((xs.length : Nat) : Int) = V.int n))) H
    rw [e]
    exact q
theorem ok_is_sequence (T : Txt w K mg) : FnR P w K mg base CX0 1 (gA "is_sequence" K) (spSeq K) := by
  obtain ⟨fd, F⟩ := T.f_is_sequence
  refine mkR F sc_is_sequence (fun _ _ _ _ _ _ us hl => match us, hl with | [_], _ => rfl) (fun vs H Q E h => ?_) (fun cdv A outer s H vs Q E hr h => ?_)
  · obtain ⟨a, rfl, _⟩ := h
    rfl
  · obtain ⟨a, rfl, ha, q⟩ := h
    have nd := sc_is_sequence.nd
    refine ⟨_, (pss_one (ps_ret (pe_callB call_isiT (by rfl) T.b_isinstance (by decide +kernel) (pa_cons (pv 0) (pa_cons (pe_tup (pa_cons (pe_bltn (v := .ty "tuple") (by rfl) T.b_tuple (by decide +kernel) rfl) (pa_cons (pe_bltn (v := .ty "list") (by rfl) T.b_list (by decide +kernel) rfl) pa_nil))) pa_nil))))), ?_⟩
    refine ⟨_, rfl, (by show 2 ≤ sizeLine; decide), fun p hp => ?_⟩
    have s1 : Same H (upd H p (.tup [.ty "tuple", .ty "list"])) := Same.new hp
    rcases ha with ⟨xs, ha⟩ | ⟨xs, ha⟩
    · exact ⟨_, _, _, .type "tuple", [.type "tuple", .type "list"], true, rfl, upd_same, .cons (.ty _) (.cons (.ty _) .nil), tyx_tup (Same.sqt s1 ha), kitAny_cons (kit_ty (r := true) (by decide +kernel)) (fun z => nomatch z) (fun _ => rfl), q _ s1⟩
    · exact ⟨_, _, _, .type "list", [.type "tuple", .type "list"], true, rfl, upd_same, .cons (.ty _) (.cons (.ty _) .nil), tyx_lst (Same.sql s1 ha),
        kitAny_cons (kit_ty (b := "tuple") (r := false) (by decide +kernel)) (fun _ => kitAny_cons (kit_ty (r := true) (by decide +kernel)) (fun z => nomatch z) (fun _ => rfl)) (fun z => nomatch z), q _ s1⟩
theorem ok_is_cell (T : Txt w K mg) : FnR P w K mg base CX0 2 (gA "is_cell" K) (spCell2 K) := by
  obtain ⟨fd, F⟩ := T.f_is_cell
  refine mkR F sc_is_cell (fun _ _ _ _ _ _ us hl => match us, hl with | [_, _, _], _ => rfl) (fun vs H Q E h => ?_) (fun cdv A outer s H vs Q E hr h => ?_)
  · obtain ⟨a, c, l, t, rfl, _⟩ := h
    rfl
  · obtain ⟨a, c, l, t, rfl, ha, ⟨h1, h2, h3, h4⟩, q⟩ := h
    have nd := sc_is_cell.nd
    refine ⟨_, (pss_one (ps_ret (pe_and (rf_call (ok_is_row T) hr T.g_is_row T.k_is_row (pa_cons (pv 0) (pa_cons pe_int pa_nil))) (pe_and (rf_call (ok_is_between T) hr T.g_is_between T.k_is_between (pa_cons (pe_ix ix_tup (pv 0) pe_int (fun _ _ => rfl)) (pa_cons (pv 1) (pa_cons (pe_op op_sub (pv 2) pe_int) pa_nil)))) (pe_one (rf_call (ok_is_between T) hr T.g_is_between T.k_is_between (pa_cons (pe_ix ix_tup (pv 0) pe_int (fun _ _ => rfl)) (pa_cons (pv 1) (pa_cons (pe_op op_sub (pv 2) pe_int) pa_nil))))))))), ?_⟩
    refine ⟨_, rfl, a, _, 2, rfl, ha, true, rfl, iteT ?_⟩
    refine ⟨_, rfl, a, _, 0, _, rfl, rfl, ha, rfl, _, rfl, _, rfl, _, _, rfl, rfl, c.1, l, t - 1, rfl, ?_⟩
    rw [decide_eq_true ⟨h1, h2⟩]
    refine ⟨true, rfl, iteT ?_⟩
    refine ⟨_, rfl, a, _, 1, _, rfl, rfl, ha, rfl, _, rfl, _, rfl, _, _, rfl, rfl, c.2, l, t - 1, rfl, ?_⟩
    rw [decide_eq_true ⟨h3, h4⟩]
    exact q
end
end Cp
/-! What stays where; comprehensions by a relation. -/
namespace Cp
open PySem PySem.Spec PyProof.Rows L2
/-! ### things that never change -/
def fixd : HO → Bool
  | .tup _ => true
  | .frz _ _ => true
  | .ins _ _ fs => (fs.lookup ("past" : Str)).isNone
  | _ => false
def Ext (H H' : Hp) : Prop := ∀ a o, H a = some o → fixd o = true → H' a = some o
/-- all but the things at ts -/
def SameX (ts : List Addr) (H H' : Hp) : Prop := ∀ a o, a ∉ ts → H a = some o → H' a = some o
section
variable {K : PySem.W.Frag} {H H1 H2 H' : Hp} {a p D : Addr} {u o : HO} {xs ys : List V} {ts us : List Addr}
theorem Ext.refl (H : Hp) : Ext H H := fun _ _ h _ => h
theorem Ext.trans (h1 : Ext H H1) (h2 : Ext H1 H2) : Ext H H2 := fun a o h f => h2 a o (h1 a o h f) f
theorem Same.ext (h : Same H H') : Ext H H' := fun a o q _ => h a o q
theorem Ext.lst (h : H D = some (.lst xs)) : Ext H (upd H D o) := fun b v q f => by
  have : b ≠ D := fun e => by rw [e, h] at q; cases q; cases f
  rw [upd_ne this]; exact q
theorem Ext.dK {kvs : List (Key × V)} (h : H D = some (.dK kvs)) : Ext H (upd H D o) := fun b v q f => by
  have : b ≠ D := fun e => by rw [e, h] at q; cases q; cases f
  rw [upd_ne this]; exact q
theorem Ext.unf (h : H D = some u) (hu : fixd u = false) : Ext H (upd H D o) := fun b v q f => by
  have : b ≠ D := fun e => by rw [e, h] at q; cases q; rw [hu] at f; cases f
  rw [upd_ne this]; exact q
theorem Ext.new (h : H D = none) : Ext H (upd H D o) := Same.ext (Same.new h)
theorem Ext.sqt (e : Ext H H') (h : SqT K H a xs) : SqT K H' a xs := h.elim (fun h => .inl (h.elim (fun h => .inl (e _ _ h rfl)) fun ⟨o, h⟩ => .inr ⟨o, e _ _ h rfl⟩)) .inr
theorem Ext.cell {c : Nat × Nat} (s : Ext H H') (h : CellAt K H p c) : CellAt K H' p c := Ext.sqt s h
theorem Ext.cells {cs : List (Nat × Nat)} (s : Ext H H') (h : CellsT K H a cs) : CellsT K H' a cs :=
  let ⟨as, h1, h2⟩ := h; ⟨as, Ext.sqt s h1, h2.imp fun _ _ q => Ext.cell s q⟩
theorem Ext.ord {ps : List Nat} (s : Ext H H') (h : OrdAt K H a ps) : OrdAt K H' a ps := let ⟨dx, t, h1, h2⟩ := h; ⟨dx, t, s _ _ h1 rfl, Ext.sqt s h2⟩
theorem Ext.net {r : Bool} {M : Net} (s : Ext H H') (h : NetAt K r H a M) : NetAt K r H' a M :=
  let ⟨dx, j, e, hd, h1, h2, h3, h4⟩ := h; ⟨dx, j, e, hd, s _ _ h1 rfl, Ext.cells s h2, Ext.sqt s h3, let ⟨o, k1, k2⟩ := h4; ⟨o, k1, s _ _ k2 rfl⟩⟩
theorem SameX.of (h : Same H H') : SameX ts H H' := fun a o _ q => h a o q
theorem SameX.to (h : SameX [] H H') : Same H H' := fun a o q => h a o (by simp) q
theorem SameX.refl (H : Hp) : SameX ts H H := fun _ _ _ h => h
theorem SameX.trans (h1 : SameX ts H H1) (h2 : SameX ts H1 H2) : SameX ts H H2 := fun a o n h => h2 a o n (h1 a o n h)
theorem SameX.mono (h : SameX ts H H') (s : ∀ x ∈ ts, x ∈ us) : SameX us H H' := fun a o n q => h a o (fun z => n (s a z)) q
theorem SameX.new (e : SameX ts H H1) (h : H p = none) : SameX ts H (upd H1 p o) := fun b v n q => by rw [upd_ne (ne_of_none q h)]; exact e b v n q
theorem SameX.at_ (e : SameX ts H H1) (h : p ∈ ts) : SameX ts H (upd H1 p o) := fun b v n q => by rw [upd_ne (fun z => n (by rw [z]; exact h))]; exact e b v n q
theorem isT {a : Addr} {xs : List V} (h : H a = some (.tup xs)) : SqT K H a xs := .inl (.inl h)
theorem isL {a : Addr} {xs : List V} (h : H a = some (.lst xs)) : SqL K H a xs := .inl (.inl h)
end
theorem walk_enumT {K : PySem.W.Frag} {a : Addr} {xs : List V} : Walk (IteT K a) xs.length (fun H => SqT K H a xs) (YPair (fun i => some (.int (i : Nat))) (fun i => xs[i]?)) := by
  refine ⟨fun i _ hi q => ⟨xs, xs[i], q, by simp [hi]⟩, fun _ q => ⟨xs, q, Nat.le_refl _⟩, fun i H v H' _ q y => ?_⟩
  obtain ⟨T, x, h1, h2, h3, h4⟩ := y
  exact ⟨T, .int (i : Nat), x, h1, h2, h3, rfl, h4 xs q⟩
theorem walk_zipT {K : PySem.W.Frag} {a b : Addr} {xs ys : List V} {n : Nat} (hn : n = min xs.length ys.length) : Walk (RZ.ItzT K a b) n (fun H => SqT K H a xs ∧ SqT K H b ys) (YPair (fun i => xs[i]?) (fun i => ys[i]?)) := by
  subst hn
  refine ⟨fun i _ hi q => ?_, fun _ q => ⟨xs, ys, q.1, q.2, by omega⟩, fun i H v H' _ q y => ?_⟩
  · have h1 : i < xs.length := by omega
    have h2 : i < ys.length := by omega
    exact ⟨xs, ys, xs[i], ys[i], q.1, q.2, by simp [h1], by simp [h2]⟩
  · obtain ⟨T, x, z, h1, h2, h3, h4, h5⟩ := y
    exact ⟨T, x, z, h1, h2, h3, h4 xs q.1, h5 ys q.2⟩
/-! ### lists by a relation -/
theorem rel_map {α : Type} {φ : α → V} {acc : List V} {l : List α} (h : Rel2 (fun v x => v = φ x) acc l) : acc = l.map φ := by
  apply List.ext_getElem?
  intro i
  rw [List.getElem?_map]
  cases e : l[i]? with
  | none =>
    rw [List.getElem?_eq_none_iff] at e
    rw [List.getElem?_eq_none (by rw [h.1]; exact e)]; rfl
  | some b =>
    obtain ⟨a, ha, r⟩ := h.get e
    rw [ha, r]
    rfl
/-- [te for g in J if tt]: item x of items gives y with F y x, where p x -/
theorem lc_rel {α : Type} {J : It} {G : Hp → Prop} {Y : Nat → Hp → V → Hp → Prop} {g : TG} {tt : TT} {te : TE} {vs : List Nat} {σ : L2.St} {H1 : Hp} {D : Addr} {Qd : Hp → Prop} {items : List α} (hD : H1 D = none) (w : Walk J items.length G Y) (p : α → Bool) (F : Hp → V → α → Prop) (ts : List Addr) (I : Nat → Hp → Prop)
    (hF : ∀ H H' v x, Ext H H' → F H v x → F H' v x) (hI0 : I 0 H1) (hI : ∀ i H D xs o, H1 D = none → H D = some (.lst xs) ∨ H D = none → I i H → I i (upd H D o)) (hts : ∀ t ∈ ts, H1 t ≠ none)
    (hz : items.length < sizeLine) (hG : ∀ i H, SameX ts H1 H → I i H → G H)
    (hgo : ∀ i x, items[i]? = some x → ∀ H, SameX ts H1 H → I i H → ∀ (Ky : VK) (Kn : Hp → Prop), (∀ y H4, SameX ts H H4 → Ext H H4 → F H4 y x → I (i + 1) H4 → p x = true → Ky y H4) → (∀ H3, SameX ts H H3 → Ext H H3 → I (i + 1) H3 → p x = false → Kn H3) →
      ∀ v H', Y i H v H' → g v (wipe σ vs) H' fun σ2 H2 => wipe σ2 vs = wipe σ vs ∧ tt σ2 H2 fun b H3 => if b = true then te σ2 H3 Ky else Kn H3)
    (hQ : ∀ acc H, SameX ts H1 H → H D = some (.lst acc) → Rel2 (F H) acc (items.filter p) → I items.length H → Qd H)
    : ∃ W : Nat → Nat → Hp → Prop, (∃ m, W 0 m (upd H1 D (.lst []))) ∧ ∀ i m H, W i m H →
      (J.stop i H ∧ Qd H) ∨ (J.go i H ∧ ∃ Nx : Hp → Prop, (∀ H', Nx H' → ∃ m', m' < m ∧ W (i + 1) m' H') ∧ ∀ x H', J.yld i H x H' → g x (wipe σ vs) H' fun σ2 H2 => wipe σ2 vs = wipe σ vs ∧ tt σ2 H2 fun b H3 =>
        if b = true then te σ2 H3 fun y H4 => ∃ acc, H4 D = some (.lst acc) ∧ acc.length < sizeLine ∧ Nx (upd H4 D (.lst (acc ++ [y]))) else Nx H3) := by
  have Dts : D ∉ ts := fun h => hts D h hD
  refine lc_it w (fun i H => ∃ acc, SameX ts H1 H ∧ H D = some (.lst acc) ∧ Rel2 (F H) acc ((items.take i).filter p) ∧ I i H) ⟨[], SameX.new (SameX.refl _) hD, upd_same, by simpa using Rel2.nil, hI _ _ D [] _ hD (.inr hD) hI0⟩ (fun i H _ ⟨acc, h1, _, _, h4⟩ => hG i H h1 h4) (fun i v H H' hi ⟨acc, h1, h2, h3, h4⟩ y => ?_) (fun H ⟨acc, h1, h2, h3, h4⟩ => ?_)
  · have e : items[i]? = some items[i] := List.getElem?_eq_getElem hi
    refine hgo i _ e H h1 h4 _ _ (fun y H4 s4 x4 f4 i4 hp => ?_) (fun H3 s3 x3 i3 hp => ?_) v H' y
    · have d4 : H4 D = some (.lst acc) := s4 D _ Dts h2
      have hl : acc.length ≤ i := by rw [h3.1]; exact Nat.le_trans (List.length_filter_le _ _) (by simp; omega)
      refine ⟨acc, d4, by omega, _, SameX.new (h1.trans s4) hD, upd_same, ?_, hI _ _ D acc _ hD (.inl d4) i4⟩
      have et : (items.take (i + 1)).filter p = (items.take i).filter p ++ [items[i]] := by rw [take_succ_of e, List.filter_append]; simp [hp]
      rw [et]
      have xx : Ext H (upd H4 D (.lst (acc ++ [y]))) := x4.trans (Ext.lst d4)
      exact (h3.imp fun _ _ q => hF _ _ _ _ xx q).snoc (hF _ _ _ _ (Ext.lst d4) f4)
    · refine ⟨acc, h1.trans s3, s3 D _ Dts h2, ?_, i3⟩
      have et : (items.take (i + 1)).filter p = (items.take i).filter p := by rw [take_succ_of e, List.filter_append]; simp [hp]
      rw [et]
      exact h3.imp fun _ _ q => hF _ _ _ _ x3 q
  · rw [List.take_length] at h3
    exact hQ acc H h1 h2 h3 h4
/-- the same, by what was there at the start alone -/
theorem lc_pure {α : Type} {J : It} {G : Hp → Prop} {Y : Nat → Hp → V → Hp → Prop} {g : TG} {tt : TT} {te : TE} {vs : List Nat} {σ : L2.St} {H1 : Hp} {D : Addr} {Qd : Hp → Prop} {items : List α} (hD : H1 D = none) (w : Walk J items.length G Y) (p : α → Bool) (F : Hp → V → α → Prop)
    (hF : ∀ H H' v x, Ext H H' → F H v x → F H' v x) (hz : items.length < sizeLine) (hG : ∀ H, Same H1 H → G H)
    (hgo : ∀ i x, items[i]? = some x → ∀ H, Same H1 H → ∀ (Ky : VK) (Kn : Hp → Prop), (∀ y H4, Same H H4 → F H4 y x → p x = true → Ky y H4) → (∀ H3, Same H H3 → p x = false → Kn H3) →
      ∀ v H', Y i H v H' → g v (wipe σ vs) H' fun σ2 H2 => wipe σ2 vs = wipe σ vs ∧ tt σ2 H2 fun b H3 => if b = true then te σ2 H3 Ky else Kn H3)
    (hQ : ∀ acc H, Same H1 H → H D = some (.lst acc) → Rel2 (F H) acc (items.filter p) → Qd H)
    : ∃ W : Nat → Nat → Hp → Prop, (∃ m, W 0 m (upd H1 D (.lst []))) ∧ ∀ i m H, W i m H →
      (J.stop i H ∧ Qd H) ∨ (J.go i H ∧ ∃ Nx : Hp → Prop, (∀ H', Nx H' → ∃ m', m' < m ∧ W (i + 1) m' H') ∧ ∀ x H', J.yld i H x H' → g x (wipe σ vs) H' fun σ2 H2 => wipe σ2 vs = wipe σ vs ∧ tt σ2 H2 fun b H3 =>
        if b = true then te σ2 H3 fun y H4 => ∃ acc, H4 D = some (.lst acc) ∧ acc.length < sizeLine ∧ Nx (upd H4 D (.lst (acc ++ [y]))) else Nx H3) :=
  lc_rel hD w p F [] (fun _ _ => True) hF trivial (fun _ _ _ _ _ _ _ _ => trivial) (fun _ h => absurd h (by simp)) hz (fun _ _ s _ => hG _ s.to)
    (fun i x e H s _ Ky Kn hy hn => hgo i x e H s.to Ky Kn (fun y H4 s4 f4 => hy y H4 (SameX.of s4) (Same.ext s4) f4 trivial) fun H3 s3 => hn H3 (SameX.of s3) (Same.ext s3) trivial)
    (fun acc H s a f _ => hQ acc H s.to a f)
/-- .. with no if -/
theorem lc_map {α : Type} {J : It} {G : Hp → Prop} {Y : Nat → Hp → V → Hp → Prop} {g : TG} {te : TE} {vs : List Nat} {σ : L2.St} {H1 : Hp} {D : Addr} {Qd : Hp → Prop} {items : List α} (hD : H1 D = none) (w : Walk J items.length G Y) (F : Hp → V → α → Prop)
    (hF : ∀ H H' v x, Ext H H' → F H v x → F H' v x) (hz : items.length < sizeLine) (hG : ∀ H, Same H1 H → G H)
    (hgo : ∀ i x, items[i]? = some x → ∀ H, Same H1 H → ∀ (Ky : VK), (∀ y H4, Same H H4 → F H4 y x → Ky y H4) →
      ∀ v H', Y i H v H' → g v (wipe σ vs) H' fun σ2 H2 => wipe σ2 vs = wipe σ vs ∧ te σ2 H2 Ky)
    (hQ : ∀ acc H, Same H1 H → H D = some (.lst acc) → Rel2 (F H) acc items → Qd H)
    : ∃ W : Nat → Nat → Hp → Prop, (∃ m, W 0 m (upd H1 D (.lst []))) ∧ ∀ i m H, W i m H →
      (J.stop i H ∧ Qd H) ∨ (J.go i H ∧ ∃ Nx : Hp → Prop, (∀ H', Nx H' → ∃ m', m' < m ∧ W (i + 1) m' H') ∧ ∀ x H', J.yld i H x H' → g x (wipe σ vs) H' fun σ2 H2 => wipe σ2 vs = wipe σ vs ∧ tYes σ2 H2 fun b H3 =>
        if b = true then te σ2 H3 fun y H4 => ∃ acc, H4 D = some (.lst acc) ∧ acc.length < sizeLine ∧ Nx (upd H4 D (.lst (acc ++ [y]))) else Nx H3) :=
  lc_pure hD w (fun _ => true) F hF hz hG (fun i x e H s Ky Kn hy hn v H' y => hgo i x e H s Ky (fun y H4 s4 f4 => hy y H4 s4 f4 rfl) v H' y) (fun acc H s a f => hQ acc H s a (by rwa [List.filter_eq_self.mpr fun _ _ => rfl] at f))
end Cp
/-! Trials, states, first ones. -/
namespace Cp
open PySem PySem.Spec PyProof.Rows L2
/-- a trial of n places, as codes from place n to place 0 -/
structure TrialOk (r : Bool) (n : Nat) (z : List Nat) : Prop where
  len : z.length = n + 1
  st : ∀ c ∈ z, c = 71 ∨ c = 75 ∨ c = 80
  zero : z[n]? = some 80 ↔ r = true
abbrev sOf (z : List Nat) : Str := ⟨z.toArray⟩
abbrev st1 (c : Nat) : Str := ⟨#[c]⟩
def stAt (z : List Nat) (p : Nat) : Nat := z.getD (z.length - 1 - p) 80
theorem sG : (("G" : Str)) = st1 71 := by decide +kernel
theorem sK : (("K" : Str)) = st1 75 := by decide +kernel
theorem sP : (("P" : Str)) = st1 80 := by decide +kernel
theorem st1_inj {a b : Nat} : st1 a = st1 b ↔ a = b := ⟨fun h => by injection h with h; simpa using h, fun h => by rw [h]⟩
theorem dst1 (a b : Nat) : decide (V.str (st1 a) = V.str (st1 b)) = decide (a = b) := by
  by_cases h : a = b
  · subst h; simp
  · rw [decide_eq_false h, decide_eq_false fun z => h (st1_inj.mp (V.str.inj z))]
theorem sOf_len (z : List Nat) : (sOf z).length = z.length := by show z.toArray.size = _; simp
theorem dInt (a b : Int) : decide (V.int a = V.int b) = decide (a = b) := by
  by_cases h : a = b
  · subst h; simp
  · rw [decide_eq_false h, decide_eq_false fun z => h (V.int.inj z)]
theorem w_str (z : List Nat) : Walk (Its (sOf z)) z.length (fun _ => True) (fun i H v H' => H' = H ∧ ∃ c, (sOf z).cps[i]? = some c ∧ v = .str ⟨#[c]⟩) := by
  have w := walk_str (z := sOf z)
  rwa [show (sOf z).cps.size = z.length from by simp] at w
theorem ite_f {c : Bool} {p q : Prop} (h : c = false) (hq : q) : if c = true then p else q := by rw [h]; exact hq
theorem ite_t {c : Bool} {p q : Prop} (h : c = true) (hp : p) : if c = true then p else q := by rw [h]; exact hp
def spHas (K : PySem.W.Frag) : Sp := fun vs H Q _ => ∃ (z : List Nat) (n : Nat), vs = [.str (sOf z), .int n] ∧ (∀ c ∈ z, c = 71 ∨ c = 75 ∨ c = 80) ∧ z.length = n + 1 ∧ n ≤ 24 ∧ ∀ H', Same H H' → Q (.bl true) H'
theorem sc_has_states : FnScope ["value", "n", "letter"] ["value", "n"] (defScope s_has_states) := ⟨rfl, rfl, rfl, by decide +kernel, rfl, by decide +kernel, by decide +kernel⟩
def spTri (K : PySem.W.Frag) (r : Bool) : Sp := fun vs H Q _ => ∃ (z : List Nat) (n : Nat), vs = [.str (sOf z), .int n] ∧ TrialOk r n z ∧ n ≤ 24 ∧ ∀ H', Same H H' → Q (.bl true) H'
theorem sc_is_trial : FnScope ["value", "n"] ["value", "n"] (defScope s_is_trial) := ⟨rfl, rfl, rfl, by decide +kernel, rfl, by decide +kernel, by decide +kernel⟩
theorem sc_is_ring_trial : FnScope ["value", "n"] ["value", "n"] (defScope s_is_ring_trial) := ⟨rfl, rfl, rfl, by decide +kernel, rfl, by decide +kernel, by decide +kernel⟩
def spStAt : Sp := fun vs H Q _ => ∃ (z : List Nat) (p : Nat), vs = [.str (sOf z), .int p] ∧ p < z.length ∧ z.length ≤ 100 ∧ Q (.str (st1 (stAt z p))) H
theorem sc_state_at : FnScope ["trial", "position"] ["trial", "position"] (defScope s_state_at) := ⟨rfl, rfl, rfl, by decide +kernel, rfl, by decide +kernel, by decide +kernel⟩
def spCarry : Sp := fun vs H Q _ => ∃ (c : Nat), vs = [.str (st1 c)] ∧ Q (.int (if c = 71 then 1 else 0)) H
theorem sc_carry_of : FnScope ["state"] ["state"] (defScope s_carry_of) := ⟨rfl, rfl, rfl, by decide +kernel, rfl, by decide +kernel, by decide +kernel⟩
def spZero : Sp := fun vs H Q _ => ∃ (r : Bool), vs = [.bl r] ∧ Q (.str (st1 (if r then 80 else 75))) H
theorem sc_zero_state : FnScope ["ring"] ["ring"] (defScope s_zero_state) := ⟨rfl, rfl, rfl, by decide +kernel, rfl, by decide +kernel, by decide +kernel⟩
section
variable {P : Program} {w : World} {K : PySem.W.Frag} {mg : Str → Option Value} {base : Heap}
theorem ok_has_states (T : Txt w K mg) : FnR P w K mg base CX0 1 (gA "has_states" K) (spHas K) := by
  obtain ⟨fd, F⟩ := T.f_has_states
  refine mkR F sc_has_states (fun _ _ _ _ _ _ us hl => match us, hl with | [_, _], _ => rfl) (fun vs H Q E h => ?_) (fun cdv A outer s H vs Q E hr h => ?_)
  · obtain ⟨z, n, rfl, _⟩ := h
    rfl
  · obtain ⟨z, n, rfl, h1, h2, h3, q⟩ := h
    have nd := sc_has_states.nd
    refine ⟨_, (pss_cons (ps_if (PW.pt (pw_or (pt_not (pt_val (pe_callB call_isi (by rfl) T.b_isinstance (by decide +kernel) (pa_cons (pv 0) (pa_cons (pe_bltn (v := .ty "str") (by rfl) T.b_str (by decide +kernel) rfl) pa_nil))))) (pw_or1 (pt_cmpR op_ne (pe_callB call_len (by rfl) T.b_len (by decide +kernel) (pa_cons (pv 0) pa_nil)) (pe_op op_add (pv 1) pe_int) (nomark _))))) (pss_one (ps_ret pe_bl)) pss_nil)
      (pss_one (ps_ret (pe_cmpR (op_eq0 hr.units) (pe_lc (own := [("letter", 2)]) (g := (gName 2)) (tt := (tTest (tOp (rIn K true) (tVar 2) (tC (.ref (He.ga K "STATES")))))) (te := (tVar 2)) rfl nd (pi_str (pv 0)) (blkOk_by (N := ["value", "n", "letter"]) (sc := defScope s_has_states) (by decide +kernel)) (fun _ _ _ _ _ => (pg_name (i := 2) nd rfl (Or.inl rfl))) (fun _ _ _ _ _ => (pts_one (pt_cmpR op_notIn_seq (pv 2) (pe_gr T.states.1) (by rfl)))) (fun _ _ _ _ _ => (pv 2))) (pe_lst pa_nil) (nomark _))))), ?_⟩
    refine ⟨_, rfl, _, _, _, _, true, rfl, .ty "str", .base (.str _), kit_ty (by decide +kernel), true, rfl, iteF ?_⟩
    refine ⟨_, rfl, _, (sOf z).length, rfl, ⟨by rw [sOf_len]; exact sz10 (by omega), rfl⟩, _, rfl, _, _, rfl, rfl, rfl, _, rfl, ite_f (by rw [sOf_len, dInt]; simp; omega) ?_⟩
    refine ⟨_, rfl, _, rfl, ?_⟩
    intro D hD
    refine lc_pure (items := z) hD (w_str z) (fun _ => false) (fun _ _ _ => True) (fun _ _ _ _ _ _ => trivial) (sz9 (by omega)) (fun _ _ => trivial) (fun i x e H1 s1 Ky Kn hy hn v H' y => ?_) (fun acc H1 s1 hd rel => ?_)
    · obtain ⟨rfl, c, hc, rfl⟩ := y
      have ec : c = x := by rw [List.getElem?_toArray] at hc; rw [hc] at e; exact Option.some.inj e
      subst ec
      refine ⟨rfl, ?_⟩
      refine ⟨_, rfl, _, _, rfl, .inr (T.states.2 _), rfl, rfl, _, rfl, ?_⟩
      have hh := h1 c (List.mem_of_getElem? e)
      have e2 : inV (.str (st1 c)) [.str "G", .str "K", .str "P"] = true := by
        rw [sG, sK, sP]
        rcases hh with rfl | rfl | rfl <;> decide +kernel
      rw [e2]
      exact hn _ (Same.refl _) rfl
    · have : acc = [] := List.eq_nil_of_length_eq_zero (by rw [rel.1]; simp)
      subst this
      refine ⟨by show 0 ≤ sizeLine; decide, fun p hp => ?_⟩
      refine ⟨D, p, [], rfl, rfl, .inl ⟨.inl (.inl ?_), .inl (.inl upd_same)⟩, ?_⟩
      · rw [upd_ne (ne_of_none hd hp)]; exact hd
      · exact q _ (s1.trans (Same.new hp))
theorem z_at {z : List Nat} {i : Nat} {c : Nat} (h : z[i]? = some c) : atI (sOf z).cps.toList (i : Int) = some c := by
  have hl : i < z.length := (List.getElem?_eq_some_iff.mp h).1
  unfold atI ixN
  rw [if_pos (by omega), if_pos (by simp; omega)]
  simpa using h
theorem ok_is_trial (T : Txt w K mg) : FnR P w K mg base CX0 2 (gA "is_trial" K) (spTri K false) := by
  obtain ⟨fd, F⟩ := T.f_is_trial
  refine mkR F sc_is_trial (fun _ _ _ _ _ _ us hl => match us, hl with | [_, _], _ => rfl) (fun vs H Q E h => ?_) (fun cdv A outer s H vs Q E hr h => ?_)
  · obtain ⟨z, n, rfl, _⟩ := h
    rfl
  · obtain ⟨z, n, rfl, ⟨h1, h2, h3⟩, h4, q⟩ := h
    have nd := sc_is_trial.nd
    have e : z[n]? = some z[n] := List.getElem?_eq_getElem (by omega)
    refine ⟨_, (pss_one (ps_ret (pe_and (rf_call (ok_has_states T) hr T.g_has_states T.k_has_states (pa_cons (pv 0) (pa_cons (pv 1) pa_nil))) (pe_one (pe_cmpR op_ne (pe_ix ix_str (pv 0) (pv 1) (fun _ _ => rfl)) (pe_gs T.c_PASS) (nomark _)))))), ?_⟩
    refine ⟨_, rfl, _, rfl, z, n, rfl, h2, h1, h4, fun H1 s1 => ⟨true, rfl, iteT ?_⟩⟩
    refine ⟨_, rfl, _, rfl, _, _, _, rfl, rfl, by rw [sOf_len]; exact sz10 (by omega), z_at e, rfl, ?_⟩
    show Q (.bl (!decide (V.str (st1 z[n]) = V.str ("P" : Str)))) H1
    rw [sP, dst1]
    have : z[n] ≠ 80 := fun x => by rw [e, x] at h3; simp at h3
    rw [decide_eq_false this]
    exact q _ s1
theorem ok_is_ring_trial (T : Txt w K mg) : FnR P w K mg base CX0 2 (gA "is_ring_trial" K) (spTri K true) := by
  obtain ⟨fd, F⟩ := T.f_is_ring_trial
  refine mkR F sc_is_ring_trial (fun _ _ _ _ _ _ us hl => match us, hl with | [_, _], _ => rfl) (fun vs H Q E h => ?_) (fun cdv A outer s H vs Q E hr h => ?_)
  · obtain ⟨z, n, rfl, _⟩ := h
    rfl
  · obtain ⟨z, n, rfl, ⟨h1, h2, h3⟩, h4, q⟩ := h
    have nd := sc_is_ring_trial.nd
    have e : z[n]? = some z[n] := List.getElem?_eq_getElem (by omega)
    refine ⟨_, (pss_one (ps_ret (pe_and (rf_call (ok_has_states T) hr T.g_has_states T.k_has_states (pa_cons (pv 0) (pa_cons (pv 1) pa_nil))) (pe_one (pe_cmpR op_eq (pe_ix ix_str (pv 0) (pv 1) (fun _ _ => rfl)) (pe_gs T.c_PASS) (nomark _)))))), ?_⟩
    refine ⟨_, rfl, _, rfl, z, n, rfl, h2, h1, h4, fun H1 s1 => ⟨true, rfl, iteT ?_⟩⟩
    refine ⟨_, rfl, _, rfl, _, _, _, rfl, rfl, by rw [sOf_len]; exact sz10 (by omega), z_at e, rfl, ?_⟩
    show Q (.bl (decide (V.str (st1 z[n]) = V.str ("P" : Str)))) H1
    rw [sP, dst1]
    have : z[n] = 80 := by rw [e] at h3; simpa using h3
    rw [decide_eq_true this]
    exact q _ s1
theorem ok_state_at (T : Txt w K mg) : FnR P w K mg base CX0 1 (gA "state_at" K) spStAt := by
  obtain ⟨fd, F⟩ := T.f_state_at
  refine mkR F sc_state_at (fun _ _ _ _ _ _ us hl => match us, hl with | [_, _], _ => rfl) (fun vs H Q E h => ?_) (fun cdv A outer s H vs Q E hr h => ?_)
  · obtain ⟨z, p, rfl, _⟩ := h
    rfl
  · obtain ⟨z, p, rfl, h1, h2, q⟩ := h
    have nd := sc_state_at.nd
    have e : z[z.length - 1 - p]? = some z[z.length - 1 - p] := List.getElem?_eq_getElem (by omega)
    have e2 : stAt z p = z[z.length - 1 - p] := by unfold stAt; rw [List.getD_eq_getElem?_getD, e]; rfl
    refine ⟨_, (pss_one (ps_ret (pe_ix ix_str (pv 0) (pe_op op_sub (pe_op op_sub (pe_callB call_len (by rfl) T.b_len (by decide +kernel) (pa_cons (pv 0) pa_nil)) pe_int) (pv 1)) (fun _ _ => rfl)))), ?_⟩
    refine ⟨_, rfl, _, rfl, _, (sOf z).length, rfl, ⟨by rw [sOf_len]; exact sz10 (by omega), rfl⟩, _, _, rfl, rfl, _, rfl, _, _, rfl, rfl, _, _, z[z.length - 1 - p], rfl, rfl, by rw [sOf_len]; exact sz10 (by omega), ?_, ?_⟩
    · have : (((sOf z).length : Int) - 1 - (p : Int)) = ((z.length - 1 - p : Nat) : Int) := by rw [sOf_len]; omega
      rw [this]
      exact z_at e
    · rw [← e2]
      exact q
theorem ok_carry_of (T : Txt w K mg) : FnR P w K mg base CX0 1 (gA "carry_of" K) spCarry := by
  obtain ⟨fd, F⟩ := T.f_carry_of
  refine mkR F sc_carry_of (fun _ _ _ _ _ _ us hl => match us, hl with | [_], _ => rfl) (fun vs H Q E h => ?_) (fun cdv A outer s H vs Q E hr h => ?_)
  · obtain ⟨c, rfl, _⟩ := h
    rfl
  · obtain ⟨c, rfl, q⟩ := h
    have nd := sc_carry_of.nd
    refine ⟨_, (pss_one (ps_ret (pe_callTy call_int1 (by rfl) T.b_int (by decide +kernel) (pa_cons (pe_cmpR op_eq (pv 0) (pe_gs T.c_GENERATE) (nomark _)) pa_nil)))), ?_⟩
    refine ⟨_, rfl, rfl, .inr ⟨_, rfl, ?_⟩⟩
    show Q (.int (if decide (V.str (st1 c) = V.str ("G" : Str)) = true then 1 else 0)) H
    rw [sG, dst1]
    simpa using q
theorem ok_zero_state (T : Txt w K mg) : FnR P w K mg base CX0 1 (gA "zero_state" K) spZero := by
  obtain ⟨fd, F⟩ := T.f_zero_state
  refine mkR F sc_zero_state (fun _ _ _ _ _ _ us hl => match us, hl with | [_], _ => rfl) (fun vs H Q E h => ?_) (fun cdv A outer s H vs Q E hr h => ?_)
  · obtain ⟨c, rfl, _⟩ := h
    rfl
  · obtain ⟨c, rfl, q⟩ := h
    have nd := sc_zero_state.nd
    refine ⟨_, (pss_one (ps_ret (pe_ifExp (pt_val (pv 0)) (pe_gs T.c_PASS) (pe_gs T.c_KILL)))), ?_⟩
    refine ⟨_, rfl, c, rfl, ?_⟩
    cases c
    · exact iteF (by show Q (.str ("K" : Str)) H; rw [sK]; exact q)
    · exact iteT (by show Q (.str ("P" : Str)) H; rw [sP]; exact q)
end
end Cp
/-! Calls with keywords of defs with keyword-only parameters. -/
namespace Cp
open PySem PySem.Spec PyProof.Rows L2
/-- a def called with keywords: its promise by the positional values and the keywords' values -/
def FnRW (P : Program) (w : World) (K : PySem.W.Frag) (mg : Str → Option Value) (base : Heap) (k : Nat) (f : Addr) (ks : List Str) (sp : List V → List V → Hp → VK → Prop) : Prop :=
  ∀ (A : Around) (outer : List Env) (s : Shared) (H : Hp) (us ws : List Value) (vs zs : List V) (Q : VK), Room k A → Env0 P w K mg base A outer s H → Vals vs us → Vals zs ws → sp vs zs H Q → codeAny (model P w) A (.call (.ref f) ⟨us, ks.zip ws⟩) (CR CX0 outer P w H s Q E0) s
section
variable {P : Program} {w : World} {K : PySem.W.Frag} {mg : Str → Option Value} {base : Heap}
/-- def f(a, *v, k): called f(a, .., k = z) -/
theorem mkRWS {x qual : Str} {params : Arguments} {body : List Stmt} {scope : Scope} {kws : List (Str × V)} {f : Addr} {fd : FuncData} {N ps : List Str} {k : Nat} {kn : Str} {sp : V → V → Addr → Hp → VK → Prop}
    (F : FunD K x qual params body scope [] kws f fd) (S : FnScope N ps scope) (hps : ps.length = 3)
    (hb : ∀ (kV doc pm : Value) (an : Option Addr) (cdv ct : Value) (a z : Value) (rest : List Value), bindArgs (PySem.W.fnOf x qual params body scope .none kV doc pm an cdv ct) ⟨a :: rest, [(kn, z)]⟩ = (newTuple rest >>= fun t => pure (ps.zip [a, z, t])))
    (hbody : ∀ (cdv : Value) (A : Around) (outer : List Env) (s : Shared) (H : Hp) (a z : V) (t : Addr) (Q : VK), Room k (A.deeper (envOfC qual scope s.heap.objs.size f cdv)) → sp a z t H Q →
      ∃ tt, PSs (cxOf CX0 P w K mg base N qual scope f cdv A outer s H E0).nox body tt ∧ tt { nx := fun _ H' => Q .non H', rt := Q } (start N [a, z, .ref t]) H) :
    FnRW P w K mg base (k + 1) f [kn] (fun vs zs H Q => ∃ a z rest, vs = a :: rest ∧ zs = [z] ∧ rest.length ≤ sizeLine ∧ ∀ p o, tupObj o → H p = none → sp a z p (upd H p (.frz o (.tup rest))) Q) := by
  obtain ⟨oc, od, dV, kV, doc, pm, an, cdv, ct, osl, rfl, lk, hcd, hD, hK⟩ := F.ex
  rcases hD with ⟨_, rfl⟩ | ⟨e, _⟩
  · intro A outer s H us ws vs zs Q hr e0 r rz hsp
    obtain ⟨a, z, rest, ev, ez, hz, hq⟩ := hsp
    subst ev ez
    cases r with
    | cons ra rr =>
      rename_i ua ur
      obtain ⟨uz, rfl, ruz⟩ := vals1 rz
      have hn : H s.heap.objs.size = Option.none := e0.hok.fresh (Nat.le_refl _)
      have hl2 : ur.length ≤ sizeLine := by rw [← rr.length]; exact hz
      refine StX.run_bnd (E := E0) lk hcd S hr e0 (G := fun xs H2 => ∃ p o, tupObj o ∧ H p = Option.none ∧ xs = [a, z, V.ref p] ∧ H2 = upd H p (.frz o (.tup rest))) (fun A' Ex Q' h => ?_) fun s2 H2 xs ⟨p, o, ho, hp, ex, eH⟩ hr' => ?_
      · show wpAny _ _ (bindArgs _ ⟨ua :: ur, [(kn, uz)]⟩) _ _ _
        rw [hb]
        refine wpAny_bind (wpAny_newTuple (wpAny_pure ?_) hl2)
        have new : ObjOk P w (upd H s.heap.objs.size (.frz ({ cls := .type "tuple", data := .seq ur.toArray } : Obj) (.tup rest))) (s.heap.push ({ cls := .type "tuple", data := .seq ur.toArray } : Obj)) s.heap.objs.size (.frz ({ cls := .type "tuple", data := .seq ur.toArray } : Obj) (.tup rest)) :=
          ⟨Heap.get?_push_size _ rfl, hz, ur, rr, ⟨_, Heap.get?_push_size _ rfl, rfl, _, rfl⟩⟩
        have un := StX.un_laid (fs := frs outer) (s := s) (o := ({ cls := .type "tuple", data := .seq ur.toArray } : Obj)) (u := .frz ({ cls := .type "tuple", data := .seq ur.toArray } : Obj) (.tup rest)) hn
        exact h _ _ [a, z, V.ref s.heap.objs.size] [ua, uz, Value.ref s.heap.objs.size] (StX.env0_laid e0 new) un rfl (fun e s' z => z.elim) (.cons ra (.cons ruz (.cons rfl .nil))) hps.symm ⟨_, _, ⟨rfl, rfl⟩, hn, rfl, rfl⟩
      · subst ex eH
        obtain ⟨t, h1, h2⟩ := hbody cdv A outer s2 _ a z p Q hr' (hq p o ho hp)
        exact ⟨t, h1.nox, h2⟩
  · exact absurd rfl e
/-- def f(.., *, k, l): called f(.., k = y, l = z) -/
theorem mkRWN {x qual : Str} {params : Arguments} {body : List Stmt} {scope : Scope} {kws : List (Str × V)} {f : Addr} {fd : FuncData} {N ps ks : List Str} {k : Nat} {sp : List V → List V → Hp → VK → Prop}
    (F : FunD K x qual params body scope [] kws f fd) (S : FnScope N ps scope)
    (hb : ∀ (kV doc pm : Value) (an : Option Addr) (cdv ct : Value) (us ws : List Value), us.length + ks.length = ps.length → ws.length = ks.length → bindArgs (PySem.W.fnOf x qual params body scope .none kV doc pm an cdv ct) ⟨us, ks.zip ws⟩ = pure (ps.zip (us ++ ws)))
    (len : ∀ vs zs H Q, sp vs zs H Q → vs.length + ks.length = ps.length ∧ zs.length = ks.length)
    (hbody : ∀ (cdv : Value) (A : Around) (outer : List Env) (s : Shared) (H : Hp) (vs zs : List V) (Q : VK), Room k (A.deeper (envOfC qual scope s.heap.objs.size f cdv)) → sp vs zs H Q →
      ∃ tt, PSs (cxOf CX0 P w K mg base N qual scope f cdv A outer s H E0).nox body tt ∧ tt { nx := fun _ H' => Q .non H', rt := Q } (start N (vs ++ zs)) H) :
    FnRW P w K mg base (k + 1) f ks sp := by
  obtain ⟨oc, od, dV, kV, doc, pm, an, cdv, ct, osl, rfl, lk, hcd, hD, hK⟩ := F.ex
  rcases hD with ⟨_, rfl⟩ | ⟨e, _⟩
  · intro A outer s H us ws vs zs Q hr e0 r rz hsp
    obtain ⟨l1, l2⟩ := len _ _ _ _ hsp
    refine StX.run_bnd (E := E0) lk hcd S hr e0 (G := fun xs H2 => xs = vs ++ zs ∧ H2 = H) (fun A' Ex Q' h => ?_) fun s2 H2 xs ⟨ex, eH⟩ hr' => ?_
    · rw [hb _ _ _ _ _ _ _ _ (by rw [← r.length]; exact l1) (by rw [← rz.length]; exact l2)]
      exact wpAny_pure (h s H (vs ++ zs) (us ++ ws) e0 Un.refl rfl (fun e s' z => z) (r.append rz) (by rw [List.length_append, l2]; exact l1) ⟨rfl, rfl⟩)
    · subst ex eH
      obtain ⟨t, h1, h2⟩ := hbody cdv A outer s2 _ vs zs Q hr' hsp
      exact ⟨t, h1.nox, h2⟩
  · exact absurd rfl e
end
/-- f(e, .., k = v, ..) -/
def tCW (sp : List V → List V → Hp → VK → Prop) (t tk : TA) : TE := fun σ H Q => t σ H fun vs H1 => tk σ H1 fun zs H2 => sp vs zs H2 Q
section
variable {X : Cx} {j k : Nat} {f : Addr} {sp : List V → List V → Hp → VK → Prop} {x : Str} {pp pos : Pos} {e : Expr} {es : List Expr} {kws : List Keyword} {t tk : TA} {ks : List Str}
theorem rf_callW (F : FnRW X.prog X.w X.K X.mg X.base j f ks sp) (hr : Room k X.A) (hm : X.mg x = some (.ref f)) (hk : PySem.W.keepIn X.K (.ref f) = true) (ha : PA X (e :: es) t) (hkw : PK X kws tk) (hj : j ≤ k := by decide) (hg : Gl X x := by rfl)
    (hall : (backToKw pos (keywordEach kws X.env)).all (·.1.isSome) = true := by rfl) (hks : (backToKw pos (keywordEach kws X.env)).filterMap (·.1) = ks := by rfl)
    (hdb : (x == ("__debug__" : Str)) = false := by decide) (he : starEach (e :: es) X.env = (false, eval e X.env) :: starEach es X.env := by rfl)
    (hpl : ((backTo pos (starEach (e :: es) X.env)).any (·.1) || (backToKw pos (keywordEach kws X.env)).any (·.1.isNone)) = false := by rfl) :
    PE X (.Call (.Name x pp) (e :: es) kws pos) (tCW sp t tk) := by
  refine ⟨fun pins s σ H Q I h => ?_⟩
  refine wpAny_Call_Name_kw (ld_glob I hg hm ?_ hdb)
  refine PySem.W.callWith_KW (h₀ := X.base) I.ok.mod.kin hk hall (thn (ha.run pos pins s σ H _ I h) fun us s1 ⟨vs, H1, I1, r, q⟩ => ?_) hpl he
  refine thn (hkw.run pos pins s1 σ H1 _ I1 q) fun ws s2 ⟨zs, H2, I2, rz, q2⟩ => ⟨I2.kIn, ?_⟩
  rw [hks]
  refine wpAny_call (codeAny_mono (F X.A X.stack s2 H2 us ws vs zs Q (hr.mono hj) I2.env0 r rz q2) fun r s' hq => ?_)
  cases r with
  | error e => exact False.elim hq
  | ok fl =>
    cases fl with
    | ret u => exact I2.after hq
    | next => exact False.elim hq
    | brk => exact False.elim hq
    | cont => exact False.elim hq
end
end Cp
/-! first ones; orders. -/
namespace Cp
open PySem PySem.Spec PyProof.Rows L2
section
variable {M : Model} {A : Around} {E : Value → Shared → Prop} {s : Shared}
theorem evalArgs_two {f : Value} {x y : Bool × Sem Value} {rest : List (Bool × Sem Value)} {Q : Args → Shared → Prop} (h : wpAny M A (spliced (x :: y :: rest)) (fun vs s' => Q ⟨vs, []⟩ s') E s) : wpAny M A (evalArgs f true (x :: y :: rest) []) Q E s := by
  unfold evalArgs
  have z : wpAny M A (spliced (x :: y :: rest) >>= fun v => (pure (v, none) : Sem (List Value × Option Value))) (fun r s' => Q ⟨r.1, []⟩ s' ∧ r.2 = none) E s := wpAny_bind (wpAny_mono h (fun vs s' h' => wpAny_pure ⟨h', rfl⟩) fun _ _ x => x)
  obtain ⟨b, xx⟩ := x
  cases b
  all_goals
    show wpAny M A (spliced (_ :: y :: rest) >>= _) Q E s
    refine wpAny_bind (wpAny_mono h (fun vs s' h' => ?_) fun _ _ x => x)
    refine wpAny_holding ?_
    exact wpAny_bind (wpAny_pure (wpAny_bind (wpAny_pure (wpAny_pure h'))))
end
section
variable {X : Cx} {j k : Nat} {f C : Addr} {sp : Sp} {x : Str} {e1 e2 : Expr} {es : List Expr} {t : TA} {pp p1 p2 pos : Pos}
/-- C(*e1, *e2, ..) -/
theorem rf_makeS (M : Mk X.K C f) (F : FnR X.prog X.w X.K X.mg X.base CX0 j f sp) (hr : Room k X.A) (hm : X.mg x = some (.ref C)) (ha : PA X (.Starred e1 p1 :: .Starred e2 p2 :: es) t) (hj : j + 1 ≤ k := by decide) (hg : Gl X x := by rfl) (hdb : (x == ("__debug__" : Str)) = false := by decide)
    (he : starEach (.Starred e1 p1 :: .Starred e2 p2 :: es) X.env = (true, eval e1 X.env) :: (true, eval e2 X.env) :: starEach es X.env := by rfl) : PE X (.Call (.Name x pp) (.Starred e1 p1 :: .Starred e2 p2 :: es) [] pos) (StX.tMakeR C sp E0 t) := by
  refine ⟨fun pins s σ H Q I h => ?_⟩
  refine wpAny_Call_Name_kw (ld_glob I hg hm ?_ hdb)
  have key : wpAny (model X.prog X.w) X.A (spliced (backTo pos (starEach (.Starred e1 p1 :: .Starred e2 p2 :: es) X.env))) (fun vs s1 => X.K.In s1.heap ∧ wpAny (model X.prog X.w) X.A (call (.ref C) ([] ++ vs)) (EP X pins σ Q) X.xe s1) X.xe s :=
    thn (ha.run pos pins s σ H _ I h) fun us s1 ⟨vs, H1, I1, r, q⟩ => ⟨I1.kIn, StX.run_makeR M F (hr.mono hj) pass0 I1 r q⟩
  rw [he] at key
  show wpAny _ _ (callWith pos (.ref C) [] (backTo pos (starEach (.Starred e1 p1 :: .Starred e2 p2 :: es) X.env)) []) _ _ s
  rw [he]
  exact PySem.W.ks_call rfl (PySem.W.keeps_K M.kp) (evalArgs_two key)
end
/-! ### first_ones -/
theorem nInts_len (ns : List Nat) : (nInts ns).length = ns.length := by simp [nInts]
theorem nInts_inj {a b : List Nat} (h : nInts a = nInts b) : a = b := by
  induction a generalizing b with
  | nil => cases b with
    | nil => rfl
    | cons y b => cases h
  | cons x a ih => cases b with
    | nil => cases h
    | cons y b =>
      have h1 : V.int (x : Int) = V.int (y : Int) := (List.cons.inj h).1
      have h2 := (List.cons.inj h).2
      have : x = y := by have := V.int.inj h1; omega
      rw [this, ih h2]
theorem nInts_app (a : List Nat) (x : Nat) : nInts a ++ [V.int (x : Int)] = nInts (a ++ [x]) := by simp [nInts]
theorem atI_last {α : Type} {xs : List α} {x : α} (h : xs.getLast? = some x) : atI xs (-1) = some x := by
  have hne : xs ≠ [] := fun e => by rw [e] at h; cases h
  have hl : 0 < xs.length := List.length_pos_iff.mpr hne
  unfold atI ixN
  rw [if_neg (by omega), if_pos (by omega)]
  show xs[((-1 : Int) + xs.length).toNat]? = some x
  rw [show ((-1 : Int) + xs.length).toNat = xs.length - 1 by omega, ← List.getLast?_eq_getElem?]
  exact h
def spF1 (K : PySem.W.Frag) : Sp := fun vs H Q _ => ∃ (a : Addr) (ps : List Nat), vs = [.ref a] ∧ SqT K H a (nInts ps) ∧ ps.length ≤ 1000 ∧ ∀ H' b, Same H H' → SqT K H' b (nInts (f1 [] ps)) → Q (.ref b) H'
theorem sc_first_ones : FnScope ["positions", "found", "position"] ["positions"] (defScope s_first_ones) := ⟨rfl, rfl, rfl, by decide +kernel, rfl, by decide +kernel, by decide +kernel⟩
theorem f1_len : ∀ (ps acc : List Nat), (f1 acc ps).length ≤ acc.length + ps.length
  | [], acc => by simp [f1]
  | p :: ps, acc => by
    unfold f1
    by_cases h : acc.getLast? = some 0
    · rw [if_pos h]; simp
    · rw [if_neg h]
      have := f1_len ps (if p ∈ acc then acc else acc ++ [p])
      by_cases h2 : p ∈ acc
      · rw [if_pos h2] at this ⊢; simp; omega
      · rw [if_neg h2] at this ⊢; simp at this ⊢; omega
section
variable {P : Program} {w : World} {K : PySem.W.Frag} {mg : Str → Option Value} {base : Heap}
theorem ok_first_ones (T : Txt w K mg) : FnR P w K mg base CX0 1 (gA "first_ones" K) (spF1 K) := by
  obtain ⟨fd, F⟩ := T.f_first_ones
  refine mkR F sc_first_ones (fun _ _ _ _ _ _ us hl => match us, hl with | [_], _ => rfl) (fun vs H Q E h => ?_) (fun cdv A outer s H vs Q E hr h => ?_)
  · obtain ⟨a, ps, rfl, _⟩ := h
    rfl
  · obtain ⟨a, ps, rfl, ha, hz, q⟩ := h
    have nd := sc_first_ones.nd
    refine ⟨_, (pss_cons (ps_set (i := 1) nd rfl (Or.inl rfl) (pe_lst pa_nil))
      (pss_cons (ps_for PassesOwn.never rfl (pi_tup (pv 0)) (pg_name (i := 2) nd rfl (Or.inl rfl))
        (pss_cons (ps_if (PW.pt (pw_and (pt_cmpR (op_ne0 hr.units) (pv 1) (pe_lst pa_nil) (nomark _)) (pw_and1 (pt_cmpR op_eq (pe_ix ix_list (pv 1) (pe_un un_neg pe_int) (fun _ _ => rfl)) pe_int (nomark _))))) (pss_one ps_break) pss_nil)
      (pss_one (ps_if (pt_cmpR op_notIn_seq (pv 2) (pv 1) (by rfl)) (pss_one (ps_expr (pe_bm PySem.F.plainAttrs_list PySem.F.slot_list_append PySem.F.type_list_append mt_append (pv 1) (pa_cons (pv 2) pa_nil)))) pss_nil))))
      (pss_one (ps_ret (pe_callTy call_tuple_of (by rfl) T.b_tuple (by decide +kernel) (pa_cons (pv 1) pa_nil)))))), ?_⟩
    refine ⟨by show 0 ≤ sizeLine; decide, fun D hD => ?_⟩
    refine ⟨_, rfl, a, rfl, ⟨_, Same.sqt (Same.new hD) ha⟩, ?_⟩
    refine for_it walk_tup (fun i σ H1 => ∃ x acc, σ = [some (.ref a), some (.ref D), x] ∧ Same H H1 ∧ H1 D = some (.lst (nInts acc)) ∧ acc.length ≤ i ∧ f1 acc (ps.drop i) = f1 [] ps)
      ⟨none, [], rfl, Same.new hD, upd_same, Nat.le_refl _, rfl⟩ (fun i σ H1 _ ⟨x, acc, e, s1, _⟩ => Same.sqt s1 ha) (fun i x σ H1 H2 hi ⟨x0, acc, e, s1, hd, hl, hf⟩ y => ?_) (fun σ H1 ⟨x, acc, e, s1, hd, hl, hf⟩ => ?_)
    rotate_left
    · rw [nInts_len, List.drop_length] at hf
      subst e
      have hf : acc = f1 [] ps := hf
      subst hf
      exact ⟨_, rfl, D, _, rfl, .inl ⟨isL hd, fun p hp => q _ p (s1.trans (Same.new hp)) (isT upd_same)⟩⟩
    obtain ⟨rfl, hx⟩ := y
    obtain ⟨p, hp, rfl⟩ := nInts_get hx
    subst e
    have hi' : i < ps.length := by rw [nInts_len] at hi; exact hi
    have ed : ps.drop i = p :: ps.drop (i + 1) := by
      rw [List.drop_eq_getElem_cons hi']
      congr 1
      have := List.getElem?_eq_getElem hi'
      rw [hp] at this
      exact (Option.some.inj this).symm
    rw [ed] at hf
    have hf1 : f1 acc (p :: ps.drop (i + 1)) = if acc.getLast? = some 0 then acc else f1 (if p ∈ acc then acc else acc ++ [p]) (ps.drop (i + 1)) := rfl
    rw [hf1] at hf
    have fl : flatV (.int (p : Int)) = true := rfl
    -- the second test
    have tail : ∀ (Hx : Hp), Same H Hx → Hx D = some (.lst (nInts acc)) → ¬ acc.getLast? = some 0 → ∀ (NX : L2.St → Hp → Prop), (∀ σ' H', (∃ x acc, σ' = [some (.ref a), some (.ref D), x] ∧ Same H H' ∧ H' D = some (.lst (nInts acc)) ∧ acc.length ≤ i + 1 ∧ f1 acc (ps.drop (i + 1)) = f1 [] ps) → NX σ' H') →
        (p ∈ acc → NX [some (.ref a), some (.ref D), some (.int (p : Int))] Hx) ∧ (p ∉ acc → NX [some (.ref a), some (.ref D), some (.int (p : Int))] (upd Hx D (.lst (nInts (acc ++ [p]))))) := by
      intro Hx s2 hd2 hlast NX hNX
      rw [if_neg hlast] at hf
      refine ⟨fun h => hNX _ _ ⟨_, acc, rfl, s2, hd2, by omega, by rw [if_pos h] at hf; exact hf⟩, fun h => hNX _ _ ⟨_, acc ++ [p], rfl, ?_, upd_same, by simp; omega, by rw [if_neg h] at hf; exact hf⟩⟩
      exact Same.mut s2 hD
    have cont : ∀ (Hx : Hp), Same H Hx → Hx D = some (.lst (nInts acc)) → ¬ acc.getLast? = some 0 → ∀ (NX : L2.St → Hp → Prop) (EE : Ends), EE.nx = NX → (∀ σ' H', (∃ x acc, σ' = [some (.ref a), some (.ref D), x] ∧ Same H H' ∧ H' D = some (.lst (nInts acc)) ∧ acc.length ≤ i + 1 ∧ f1 acc (ps.drop (i + 1)) = f1 [] ps) → NX σ' H') →
        tIfS (tTest (tOp (rIn K true) (tVar 2) (tVar 1))) (tDrop (tBM K "list" rAppend (tVar 1) (tCons (tVar 2) tNil))) tNext EE [some (.ref a), some (.ref D), some (.int (p : Int))] Hx := by
      intro Hx s2 hd2 hlast NX EE eE hNX
      obtain ⟨t1, t2⟩ := tail Hx s2 hd2 hlast NX hNX
      refine ⟨_, rfl, _, rfl, D, _, rfl, .inl (isL hd2), fl, flat_ints acc, _, rfl, ?_⟩
      rw [inV_ints]
      by_cases h : p ∈ acc
      · rw [decide_eq_true h]
        refine iteF ?_
        show EE.nx _ _
        rw [eE]
        exact t1 h
      · rw [decide_eq_false h]
        refine iteT ?_
        refine ⟨_, rfl, .inl ⟨rfl, _, isL hd2⟩, _, rfl, D, _, _, rfl, rfl, hd2, by rw [nInts_len]; exact sz9 (by omega), ?_⟩
        show EE.nx _ _
        rw [eE, nInts_app]
        exact t2 h
    refine ⟨_, rfl, by show 0 ≤ sizeLine; decide, fun p0 hp0 => ?_⟩
    have s2 : Same H (upd H2 p0 (.lst [])) := s1.trans (Same.new hp0)
    have hd2 : upd H2 p0 (.lst []) D = some (.lst (nInts acc)) := by rw [upd_ne (ne_of_none hd hp0)]; exact hd
    refine ⟨D, p0, _, rfl, rfl, .inl ⟨isL hd2, isL upd_same⟩, _, rfl, ?_⟩
    by_cases he : acc = []
    · subst he
      refine iteF ?_
      exact cont _ s2 hd2 (by simp) _ _ rfl fun σ' H' h => h
    · have hb : (!(nInts acc).isEmpty) = true := by cases acc with
        | nil => exact absurd rfl he
        | cons x r => rfl
      rw [hb]
      refine iteT ?_
      obtain ⟨y, hy⟩ : ∃ y, acc.getLast? = some y := ⟨_, List.getLast?_eq_some_getLast he⟩
      have hy2 : (nInts acc).getLast? = some (.int (y : Int)) := by rw [List.getLast?_map, hy]; rfl
      refine ⟨_, rfl, 1, rfl, D, _, -1, _, rfl, rfl, isL hd2, atI_last hy2, rfl, _, rfl, ?_⟩
      by_cases hy0 : y = 0
      · subst hy0
        rw [show decide (V.int ((0 : Nat) : Int) = V.int 0) = true from by decide]
        refine iteT ?_
        rw [if_pos hy] at hf
        subst hf
        exact ⟨_, rfl, D, _, rfl, .inl ⟨isL hd2, fun p hp => q _ p (s2.trans (Same.new hp)) (isT upd_same)⟩⟩
      · have : decide (V.int (y : Int) = V.int 0) = false := by rw [dInt]; simp; omega
        rw [this]
        refine iteF ?_
        exact cont _ s2 hd2 (by rw [hy]; simpa using hy0) _ _ rfl fun σ' H' h => h
end
end Cp
/-! == of data; star defs; the class Order. -/
namespace Cp
open PySem PySem.Spec PyProof.Rows L2
/-! ### data -/
def dI (ns : List Nat) : List PyData := List.map (fun n : Nat => PyData.int (n : Int)) ns
def dC (c : Nat × Nat) : PyData := .tuple [.int (c.1 : Int), .int (c.2 : Int)]
section
variable {K : PySem.W.Frag} {H : Hp} {a b : Addr}
theorem dpAll_ints (ns : List Nat) : DpAll K H (nInts ns) (dI ns) := by
  induction ns with
  | nil => exact .nil
  | cons n ns ih => exact .cons (.int _) ih
theorem dp_ints {ns : List Nat} (h : SqT K H a (nInts ns)) : Dp K H (.ref a) (.tuple (dI ns)) := .tup h (dpAll_ints ns)
theorem canI (ns : List Nat) : PyData.canLayAll0 (dI ns) = true := by
  induction ns with
  | nil => rfl
  | cons n ns ih => show (PyData.canLay0 (.int n) && PyData.canLayAll0 (dI ns)) = true; rw [ih]; rfl
theorem depI (ns : List Nat) : PyData.depthAll (dI ns) = 0 := by
  induction ns with
  | nil => rfl
  | cons n ns ih => show max (PyData.depth (.int n)) (PyData.depthAll (dI ns)) = 0; rw [ih]; rfl
theorem shp_ints (ns : List Nat) : SeqAt.shaped (.tuple (dI ns)) = true := by
  unfold SeqAt.shaped
  rw [show PyData.canLay0 (.tuple (dI ns)) = PyData.canLayAll0 (dI ns) from by simp [PyData.canLay0], canI, show PyData.depth (.tuple (dI ns)) = PyData.depthAll (dI ns) + 1 from by simp [PyData.depth], depI]
  rfl
theorem eqvI : ∀ (ns ms : List Nat), PyData.eqvAll (dI ns) (dI ms) = decide (ns = ms)
  | [], [] => by simp [dI, PyData.eqvAll]
  | [], m :: ms => by simp [dI, PyData.eqvAll]
  | n :: ns, [] => by simp [dI, PyData.eqvAll]
  | n :: ns, m :: ms => by
    have e : PyData.eqvAll (dI (n :: ns)) (dI (m :: ms)) = (PyData.eqv (.int (n : Int)) (.int (m : Int)) && PyData.eqvAll (dI ns) (dI ms)) := by simp [dI, PyData.eqvAll]
    have e2 : PyData.eqv (.int (n : Int)) (.int (m : Int)) = decide (n = m) := by
      show ((n : Int) == (m : Int)) = decide (n = m)
      by_cases h : n = m
      · subst h; simp
      · have : ¬ ((n : Int) = (m : Int)) := by omega
        simp [h, this]
    rw [e, eqvI ns ms, e2]
    by_cases h : n = m <;> by_cases h2 : ns = ms <;> simp [h, h2]
theorem eq_ints (ns ms : List Nat) : PyData.eqv (.tuple (dI ns)) (.tuple (dI ms)) = decide (ns = ms) := by
  rw [show PyData.eqv (.tuple (dI ns)) (.tuple (dI ms)) = PyData.eqvAll (dI ns) (dI ms) from by simp [PyData.eqv], eqvI]
theorem dpAll_cells : ∀ {as : List Addr} {cs : List (Nat × Nat)}, Rel2 (CellAt K H) as cs → DpAll K H (as.map V.ref) (cs.map dC)
  | [], [], _ => .nil
  | [], c :: cs, h => by have := h.1; simp at this
  | a :: as, [], h => by have := h.1; simp at this
  | a :: as, c :: cs, h => by
    refine .cons (.tup (h.2 0 a c rfl rfl) (.cons (.int _) (.cons (.int _) .nil))) (dpAll_cells ⟨by have := h.1; simpa using this, fun i x y e1 e2 => h.2 (i + 1) x y (by simpa using e1) (by simpa using e2)⟩)
theorem dp_cells {cs : List (Nat × Nat)} (h : CellsT K H a cs) : Dp K H (.ref a) (.tuple (cs.map dC)) := let ⟨as, h1, h2⟩ := h; .tup h1 (dpAll_cells h2)
theorem canC (cs : List (Nat × Nat)) : PyData.canLayAll0 (cs.map dC) = true := by
  induction cs with
  | nil => rfl
  | cons n ns ih => show (PyData.canLay0 (dC n) && PyData.canLayAll0 (ns.map dC)) = true; rw [ih]; rfl
theorem depC (cs : List (Nat × Nat)) : PyData.depthAll (cs.map dC) ≤ 1 := by
  induction cs with
  | nil => simp [PyData.depthAll]
  | cons n ns ih =>
    have : PyData.depth (dC n) = 1 := by simp [dC, PyData.depth, PyData.depthAll]
    show max (PyData.depth (dC n)) (PyData.depthAll (ns.map dC)) ≤ 1
    rw [this]; omega
theorem shp_cells (cs : List (Nat × Nat)) : SeqAt.shaped (.tuple (cs.map dC)) = true := by
  unfold SeqAt.shaped
  have := depC cs
  rw [show PyData.canLay0 (.tuple (cs.map dC)) = PyData.canLayAll0 (cs.map dC) from by simp [PyData.canLay0], canC, show PyData.depth (.tuple (cs.map dC)) = PyData.depthAll (cs.map dC) + 1 from by simp [PyData.depth]]
  simp; omega
theorem eqvC : ∀ (ns ms : List (Nat × Nat)), PyData.eqvAll (ns.map dC) (ms.map dC) = decide (ns = ms)
  | [], [] => by simp [PyData.eqvAll]
  | [], m :: ms => by simp [PyData.eqvAll]
  | n :: ns, [] => by simp [PyData.eqvAll]
  | n :: ns, m :: ms => by
    have e : PyData.eqvAll ((n :: ns).map dC) ((m :: ms).map dC) = (PyData.eqv (dC n) (dC m) && PyData.eqvAll (ns.map dC) (ms.map dC)) := by simp [PyData.eqvAll]
    have e2 : PyData.eqv (dC n) (dC m) = decide (n = m) := by
      have := eq_ints [n.1, n.2] [m.1, m.2]
      rw [show PyData.eqv (dC n) (dC m) = PyData.eqv (.tuple (dI [n.1, n.2])) (.tuple (dI [m.1, m.2])) from rfl, this]
      obtain ⟨n1, n2⟩ := n; obtain ⟨m1, m2⟩ := m
      simp
    rw [e, eqvC ns ms, e2]
    by_cases h : n = m <;> by_cases h2 : ns = ms <;> simp [h, h2]
theorem eq_cells (ns ms : List (Nat × Nat)) : PyData.eqv (.tuple (ns.map dC)) (.tuple (ms.map dC)) = decide (ns = ms) := by
  rw [show PyData.eqv (.tuple (ns.map dC)) (.tuple (ms.map dC)) = PyData.eqvAll (ns.map dC) (ms.map dC) from by simp [PyData.eqv], eqvC]
end
section
variable {P : Program} {w : World} {K : PySem.W.Frag} {mg : Str → Option Value} {base : Heap}
/-- def f(a, .., *v): a promise of the body -/
theorem mkRS {x qual pv : Str} {params : Arguments} {body : List Stmt} {scope : Scope} {f : Addr} {fd : FuncData} {N ps : List Str} {k : Nat} {sp : Sp} {kws : List (Str × V)}
    (F : FunD K x qual params body scope [] kws f fd) (S : FnScope N (ps ++ [pv]) scope)
    (hb : ∀ (kV doc pm : Value) (an : Option Addr) (cdv ct : Value) (us rest : List Value), us.length = ps.length → bindArgs (PySem.W.fnOf x qual params body scope .none kV doc pm an cdv ct) ⟨us ++ rest, []⟩ = (newTuple rest >>= fun t => pure (ps.zip us ++ [(pv, t)])))
    (hbody : ∀ (cdv : Value) (A : Around) (outer : List Env) (s : Shared) (H : Hp) (vs : List V) (Q : VK) (E : XK), Room k (A.deeper (envOfC qual scope s.heap.objs.size f cdv)) → sp vs H Q E →
      ∃ t, PSs (cxOf CX0 P w K mg base N qual scope f cdv A outer s H E).nox body t ∧ t { nx := fun _ H' => Q .non H', rt := Q } (start N vs) H) :
    FnR P w K mg base CX0 (k + 1) f (fun vs H Q E => ∃ ws rest, vs = ws ++ rest ∧ ws.length = ps.length ∧ rest.length ≤ sizeLine ∧ ∀ p, H p = Option.none → sp (ws ++ [V.ref p]) (upd H p (.tup rest)) Q E) := by
  obtain ⟨oc, od, dV, kV, doc, pm, an, cdv, ct, osl, rfl, lk, hcd, hD, hK⟩ := F.ex
  rcases hD with ⟨_, rfl⟩ | ⟨e, _⟩
  · refine StX.fn_star lk hcd S StX.cxUp_none (hb kV doc pm an cdv ct) fun A outer s H vs Q E hr h => ?_
    obtain ⟨t, h1, h2⟩ := hbody cdv A outer s H vs Q E hr h
    exact ⟨t, h1.nox, h2⟩
  · exact absurd rfl e
end
theorem Same.sqt' {K : PySem.W.Frag} {H : Hp} {b x C dx : Addr} {ys : List V} {fs : List (Str × V)} {o : HO} (h : SqT K H b ys) (hx : H x = some (.ins C dx fs)) : SqT K (upd H x o) b ys :=
  h.elim (fun h => .inl (h.elim (fun h => .inl (by rw [upd_ne (ne_of h hx (fun z => by cases z))]; exact h)) fun ⟨o', h⟩ => .inr ⟨o', by rw [upd_ne (ne_of h hx (fun z => by cases z))]; exact h⟩)) .inr
/-! ### Order -/
section
variable {P : Program} {w : World} {K : PySem.W.Frag} {mg : Str → Option Value} {base : Heap}
theorem isi_ins {H : Hp} {a C dx : Addr} {fs : List (Str × V)} (e : H a = some (.ins C dx fs)) (cl : Cls K C) (i : IsiOf K C) : TyX K H (.ref a) (.ref C) := .base (.ins e cl i.1 i.2 i.3 i.4)
def spOrd (K : PySem.W.Frag) : Sp := fun vs H Q _ => ∃ (x dx : Addr) (ps : List Nat), vs = .ref x :: nInts ps ∧ H x = some (.ins (gA "Order" K) dx []) ∧ ps.length ≤ 1000 ∧ (∀ p ∈ ps, p ≤ 24) ∧ ∀ H', SameX [x] H H' → OrdAt K H' x (f1 [] ps) → Q .non H'
theorem sc_Order_init : FnScope ["self", "positions", "index", "position"] ["self", "positions"] (defScope s_Order_init) := ⟨rfl, rfl, rfl, by decide +kernel, rfl, by decide +kernel, by decide +kernel⟩
theorem ok_Order_init (T : Txt w K mg) : FnR P w K mg base CX0 2 (mA "Order" "__init__" K) (spOrd K) := by
  obtain ⟨fd, F⟩ := T.f_Order_init
  refine FnR.imp (mkRS (ps := ["self"]) (pv := "positions") (k := 1) (sp := fun vs H Q E => ∃ (x dx t : Addr) (ps : List Nat), vs = [.ref x, .ref t] ∧ H x = some (.ins (gA "Order" K) dx []) ∧ SqT K H t (nInts ps) ∧ ps.length ≤ 1000 ∧ (∀ p ∈ ps, p ≤ 24) ∧ ∀ H', SameX [x] H H' → OrdAt K H' x (f1 [] ps) → Q .non H')
    F sc_Order_init (fun kV doc pm an cdv ct us rest hl => match us, rest, hl with | [a], [], _ => rfl | [a], r :: rs, _ => rfl) fun cdv A outer s H vs Q E hr h => ?_) fun vs H Q E h => ?_
  · obtain ⟨x, dx, t, ps, rfl, hx, ht, hl, hb, q⟩ := h
    have nd := sc_Order_init.nd
    refine ⟨_, (pss_cons (ps_for PassesOwn.never rfl (pi_enumT (by rfl) T.b_enumerate (pa_cons (pv 1) pa_nil)) (pg_tup rfl (pgs_cons (pg_name (i := 2) nd rfl (Or.inl rfl)) (pgs_cons (pg_name (i := 3) nd rfl (Or.inl rfl)) pgs_nil)))
        (pss_one (ps_if (pt_not (pt_val (rf_call (ok_is_between T) hr T.g_is_between T.k_is_between (pa_cons (pv 3) (pa_cons pe_int (pa_cons (pe_con (pv 0) rfl) pa_nil)))))) (pss_one ps_never) pss_nil)))
      (pss_one (ps_fld (pv 0) (rf_call (ok_first_ones T) hr T.g_first_ones T.k_first_ones (pa_cons (pv 1) pa_nil)) rfl))), ?_⟩
    refine ⟨_, rfl, t, _, rfl, .inr ⟨ht, ?_⟩⟩
    refine for_it walk_enumT (fun i σ H1 => ∃ u v, σ = [some (.ref x), some (.ref t), u, v] ∧ Same H H1) ⟨none, none, rfl, Same.refl _⟩ (fun i σ H1 _ ⟨u, v, e, s1⟩ => Same.sqt s1 ht) (fun i z σ H1 H2 hi ⟨u, v, e, s1⟩ y => ?_) (fun σ H1 ⟨u, v, e, s1⟩ => ?_)
    · obtain ⟨T', i', p', rfl, hT, rfl, ei, hx'⟩ := y
      obtain ⟨p, hp, rfl⟩ := nInts_get hx'
      cases ei
      subst e
      have s2 : Same H (upd H1 T' (.tup [.int (i : Nat), .int (p : Int)])) := s1.trans (Same.new hT)
      obtain ⟨cu, hcon⟩ := T.v_Order_GREATEST
      refine ⟨T', _, rfl, isT upd_same, rfl, _, _, rfl, _, _, rfl, rfl, ?_⟩
      refine ⟨_, rfl, _, rfl, x, _, dx, [], _, _, rfl, s2 _ _ hx, T.cl_Order, hcon, rfl, p, 0, 24, rfl, ?_⟩
      have := hb p (List.mem_of_getElem? hp)
      rw [decide_eq_true (by omega)]
      exact ⟨true, rfl, iteF ⟨_, _, rfl, s2⟩⟩
    · subst e
      refine ⟨_, rfl, t, ps, rfl, Same.sqt s1 ht, hl, fun H' b s' hs' => ?_⟩
      have s2 := s1.trans s'
      refine ⟨_, rfl, x, _, dx, [], rfl, s2 _ _ hx, T.cl_Order, T.n_Order_entries, by decide, ?_⟩
      exact q _ ((SameX.of s2).at_ (by simp)) ⟨dx, b, upd_same, Same.sqt' hs' (s2 _ _ hx)⟩
  · obtain ⟨x, dx, ps, rfl, hx, hl, hb, q⟩ := h
    refine ⟨[.ref x], nInts ps, rfl, rfl, by rw [nInts_len]; exact sz10 (by omega), fun p hp => ?_⟩
    refine ⟨x, dx, p, ps, rfl, ?_, isT upd_same, hl, hb, fun H' s' o => q H' ((SameX.of (Same.new hp)).trans s') o⟩
    rw [upd_ne (ne_of_none hx hp)]; exact hx
end
end Cp
/-! Order, node_orders, node_states. -/
namespace Cp
open PySem PySem.Spec PyProof.Rows L2
section
variable {P : Program} {w : World} {K : PySem.W.Frag} {mg : Str → Option Value} {base : Heap}
theorem SameX.same1 {H H' : Hp} {x : Addr} (h : SameX [x] H H') (n : H x = none) : Same H H' := fun b o q => h b o (by simp; exact ne_of_none q n) q
/-- what lies there before an instance is made lies there behind it -/
theorem Same.made' {H H' : Hp} {x dx C : Addr} (n : H x = none) (d : H dx = none) (h : SameX [x] (upd (upd H dx (.own x)) x (.ins C dx [])) H') : Same H H' := fun b o q =>
  h b o (by simp; exact ne_of_none q n) (by rw [upd_ne (ne_of_none q n), upd_ne (ne_of_none q d)]; exact q)
theorem mk_ord {H : Hp} {ps : List Nat} {Q : VK} (hl : ps.length ≤ 1000) (hb : ∀ p ∈ ps, p ≤ 24) (q : ∀ x H', Same H H' → H x = none → OrdAt K H' x (f1 [] ps) → Q (.ref x) H') :
    ∀ x dx, H x = none → H dx = none → dx ≠ x → spOrd K (.ref x :: nInts ps) (upd (upd H dx (.own x)) x (.ins (gA "Order" K) dx [])) (fun v H2 => v = .non ∧ Q (.ref x) H2) E0 :=
  fun x dx n d _ => ⟨x, dx, ps, rfl, upd_same, hl, hb, fun H' s' o => ⟨rfl, q x H' (Same.made' n d s') n o⟩⟩
def spOrdPos (K : PySem.W.Frag) : Sp := fun vs H Q _ => ∃ (a : Addr) (ps : List Nat), vs = [.ref a] ∧ OrdAt K H a ps ∧ ∀ t, SqT K H t (nInts ps) → Q (.ref t) H
theorem sc_Order_positions : FnScope ["self"] ["self"] (defScope s_Order_positions) := ⟨rfl, rfl, rfl, by decide +kernel, rfl, by decide +kernel, by decide +kernel⟩
theorem ok_Order_positions (T : Txt w K mg) : FnR P w K mg base CX0 1 (pA "Order" "positions" K) (spOrdPos K) := by
  obtain ⟨fd, F⟩ := T.f_Order_positions
  refine mkR F sc_Order_positions (fun _ _ _ _ _ _ us hl => match us, hl with | [_], _ => rfl) (fun vs H Q E h => ?_) (fun cdv A outer s H vs Q E hr h => ?_)
  · obtain ⟨a, ps, rfl, _⟩ := h
    rfl
  · obtain ⟨a, ps, rfl, ⟨dx, t, ha, ht⟩, q⟩ := h
    have nd := sc_Order_positions.nd
    refine ⟨_, (pss_one (ps_ret (pe_fld (pv 0) rfl))), ?_⟩
    exact ⟨_, rfl, a, _, dx, _, .ref t, rfl, ha, T.cl_Order, T.n_Order_entries, rfl, q t ht⟩
def spOrdEq (K : PySem.W.Frag) : Sp := fun vs H Q _ => ∃ (a b : Addr) (ps qs : List Nat), vs = [.ref a, .ref b] ∧ OrdAt K H a ps ∧ OrdAt K H b qs ∧ Q (.bl (decide (ps = qs))) H
theorem sc_Order_eq : FnScope ["self", "other"] ["self", "other"] (defScope s_Order_eq) := ⟨rfl, rfl, rfl, by decide +kernel, rfl, by decide +kernel, by decide +kernel⟩
theorem ok_Order_eq (T : Txt w K mg) : FnR P w K mg base CX0 1 (mA "Order" "__eq__" K) (spOrdEq K) := by
  obtain ⟨fd, F⟩ := T.f_Order_eq
  refine mkR F sc_Order_eq (fun _ _ _ _ _ _ us hl => match us, hl with | [_, _], _ => rfl) (fun vs H Q E h => ?_) (fun cdv A outer s H vs Q E hr h => ?_)
  · obtain ⟨a, b, ps, qs, rfl, _⟩ := h
    rfl
  · obtain ⟨a, b, ps, qs, rfl, ⟨dx, t, ha, ht⟩, ⟨dy, u, hb, hu⟩, q⟩ := h
    have nd := sc_Order_eq.nd
    refine ⟨_, (pss_one (ps_ret (pe_and (pe_callB call_isi (by rfl) T.b_isinstance (by decide +kernel) (pa_cons (pv 1) (pa_cons (pe_gr T.g_Order) pa_nil))) (pe_one (pe_cmpR (op_eqD hr.units) (pe_fld (pv 0) rfl) (pe_fld (pv 1) rfl) (nomark _)))))), ?_⟩
    refine ⟨_, rfl, _, _, _, _, true, rfl, .own _, isi_ins hb T.cl_Order T.is_Order, T.i_Order_Order, true, rfl, iteT ?_⟩
    refine ⟨_, rfl, a, _, dx, _, .ref t, rfl, ha, T.cl_Order, T.n_Order_entries, rfl, ?_⟩
    refine ⟨_, rfl, b, _, dy, _, .ref u, rfl, hb, T.cl_Order, T.n_Order_entries, rfl, ?_⟩
    refine ⟨_, _, dp_ints ht, dp_ints hu, shp_ints _, shp_ints _, ?_⟩
    rw [eq_ints]
    exact q
def spOrdAdd (K : PySem.W.Frag) : Sp := fun vs H Q _ => ∃ (a b : Addr) (ps qs : List Nat), vs = [.ref a, .ref b] ∧ OrdAt K H a ps ∧ OrdAt K H b qs ∧ ps.length ≤ 100 ∧ qs.length ≤ 100 ∧ (∀ p ∈ ps, p ≤ 24) ∧ (∀ p ∈ qs, p ≤ 24) ∧ ∀ c H', Same H H' → H c = none → OrdAt K H' c (f1 [] (ps ++ qs)) → Q (.ref c) H'
theorem sc_Order_add : FnScope ["self", "other"] ["self", "other"] (defScope s_Order_add) := ⟨rfl, rfl, rfl, by decide +kernel, rfl, by decide +kernel, by decide +kernel⟩
theorem nInts_append (a b : List Nat) : nInts (a ++ b) = nInts a ++ nInts b := by simp [nInts]
theorem ok_Order_add (T : Txt w K mg) : FnR P w K mg base CX0 4 (mA "Order" "__add__" K) (spOrdAdd K) := by
  obtain ⟨fd, F⟩ := T.f_Order_add
  refine mkR F sc_Order_add (fun _ _ _ _ _ _ us hl => match us, hl with | [_, _], _ => rfl) (fun vs H Q E h => ?_) (fun cdv A outer s H vs Q E hr h => ?_)
  · obtain ⟨a, b, ps, qs, rfl, _⟩ := h
    rfl
  · obtain ⟨a, b, ps, qs, rfl, ⟨dx, t, ha, ht⟩, ⟨dy, u, hb, hu⟩, l1, l2, b1, b2, q⟩ := h
    have nd := sc_Order_add.nd
    refine ⟨_, (pss_one (ps_ret (rf_makeS T.mk_Order (ok_Order_init T) hr T.g_Order (pa_star0 (pe_fld (pv 0) rfl) (pa_star0 (pe_fld (pv 1) rfl) pa_nil))))), ?_⟩
    refine ⟨_, rfl, a, _, dx, _, .ref t, rfl, ha, T.cl_Order, T.n_Order_entries, rfl, t, _, rfl, .inl ht, ?_⟩
    refine ⟨_, rfl, b, _, dy, _, .ref u, rfl, hb, T.cl_Order, T.n_Order_entries, rfl, u, _, rfl, .inl hu, ?_⟩
    show ∀ x dx, _
    rw [List.append_nil, ← nInts_append]
    refine mk_ord (by simp; omega) (fun p hp => (List.mem_append.mp hp).elim (b1 p) (b2 p)) fun x H' s' n o => q x H' s' n o
end
end Cp
/-! node_orders, node_states. -/
namespace Cp
open PySem PySem.Spec PyProof.Rows L2
theorem nodup_len : ∀ (m : Nat) (l : List Nat), l.Nodup → (∀ x ∈ l, x < m) → l.length ≤ m
  | 0, l, _, h => by
    cases l with
    | nil => exact Nat.le_refl _
    | cons x r => exact absurd (h x (by simp)) (Nat.not_lt_zero _)
  | m + 1, l, hn, h => by
    have h1 := nodup_len m (l.erase m) (hn.erase m) fun x hx => by
      have a := h x (List.mem_of_mem_erase hx)
      have b : x ≠ m := fun e => (hn.mem_erase_iff.mp hx).1 e
      omega
    have h2 := List.length_erase (a := m) (l := l)
    split at h2 <;> omega
theorem OrdOk.len {r : Bool} {n : Nat} {a : List Nat} (h : OrdOk r n a) : a.length ≤ n + 1 := nodup_len _ _ h.nd fun x hx => by have := (h.bd x hx).2; omega
def spNOrds (K : PySem.W.Frag) : Sp := fun vs H Q _ => ∃ (r : Bool) (n : Nat) (a : Addr) (cs : List (Nat × Nat)), vs = [.int n, .ref a] ∧ n ≤ 24 ∧ cs.length ≤ 150 ∧ CellsT K H a cs ∧ CellsOk r n cs ∧
  ∀ H' b as, Same H H' → H' b = some (.lst (as.map V.ref)) → Rel2 (OrdAt K H') as (ords n cs) → Q (.ref b) H'
theorem sc_node_orders : FnScope ["n", "cells", "found", "upper", "lower", "position"] ["n", "cells"] (defScope s_node_orders) := ⟨rfl, rfl, rfl, by decide +kernel, rfl, by decide +kernel, by decide +kernel⟩
def stsF (found : List Nat) : List (Nat × Nat) → List Nat
  | [] => found
  | c :: cs => stsF (found ++ [if found.getD c.1 80 = 80 then found.getD c.2 80 else found.getD c.1 80]) cs
def sts (z : List Nat) (n : Nat) (cs : List (Nat × Nat)) : List Nat := stsF ((List.range (n + 1)).map (stAt z)) cs
theorem stsF_snoc : ∀ (cs : List (Nat × Nat)) (c : Nat × Nat) (f : List Nat), stsF f (cs ++ [c]) = stsF f cs ++ [if (stsF f cs).getD c.1 80 = 80 then (stsF f cs).getD c.2 80 else (stsF f cs).getD c.1 80]
  | [], c, f => rfl
  | d :: cs, c, f => by
    show stsF _ (cs ++ [c]) = _
    rw [stsF_snoc cs c]
    rfl
theorem stsF_len : ∀ (cs : List (Nat × Nat)) (f : List Nat), (stsF f cs).length = f.length + cs.length
  | [], f => rfl
  | d :: cs, f => by
    show (stsF _ cs).length = _
    rw [stsF_len cs]
    simp
    omega
theorem sts_len (z : List Nat) (n : Nat) (cs : List (Nat × Nat)) : (sts z n cs).length = n + 1 + cs.length := by
  unfold sts
  rw [stsF_len]
  simp
theorem sts_take {z : List Nat} {n : Nat} {cs : List (Nat × Nat)} {i : Nat} {c : Nat × Nat} (h : cs[i]? = some c) : sts z n (cs.take (i + 1)) = sts z n (cs.take i) ++ [if (sts z n (cs.take i)).getD c.1 80 = 80 then (sts z n (cs.take i)).getD c.2 80 else (sts z n (cs.take i)).getD c.1 80] := by
  rw [take_succ_of h]
  exact stsF_snoc _ _ _
abbrev nStrs (l : List Nat) : List V := List.map (fun c : Nat => V.str (st1 c)) l
def spNSts (K : PySem.W.Frag) : Sp := fun vs H Q _ => ∃ (r : Bool) (n : Nat) (a d : Addr) (z : List Nat) (cs : List (Nat × Nat)), vs = [.int n, .ref a, .str (sOf z), .ref d] ∧ n ≤ 24 ∧ cs.length ≤ 150 ∧ CellsT K H a cs ∧ CellsOk r n cs ∧ z.length = n + 1 ∧ H d = some (.dK []) ∧
  ∀ H' b, Same H H' → H' b = some (.lst (nStrs (sts z n cs))) → Q (.ref b) H'
theorem sc_node_states : FnScope ["n", "cells", "trial", "stuck", "found", "index", "upper", "lower", "joined", "position"] ["n", "cells", "trial", "stuck"] (defScope s_node_states) := ⟨rfl, rfl, rfl, by decide +kernel, rfl, by decide +kernel, by decide +kernel⟩
theorem refs_of {β : Type} {F : Addr → β → Prop} : ∀ {acc : List V} {l : List β}, Rel2 (fun v x => ∃ a, v = V.ref a ∧ F a x) acc l → ∃ as : List Addr, acc = as.map V.ref ∧ Rel2 F as l
  | [], [], _ => ⟨[], rfl, Rel2.nil⟩
  | [], y :: l, h => by have := h.1; simp at this
  | v :: acc, [], h => by have := h.1; simp at this
  | v :: acc, y :: l, h => by
    obtain ⟨a, rfl, f⟩ := h.2 0 v y rfl rfl
    obtain ⟨as, rfl, g⟩ := refs_of (acc := acc) (l := l) ⟨by have := h.1; simpa using this, fun i x z e1 e2 => h.2 (i + 1) x z (by simpa using e1) (by simpa using e2)⟩
    exact ⟨a :: as, rfl, g.cons f⟩
theorem Rel2.map {α β γ : Type} {R : α → γ → Prop} {g : β → γ} {l : List α} {m : List β} (h : Rel2 (fun a b => R a (g b)) l m) : Rel2 R l (m.map g) :=
  ⟨by simp [h.1], fun i a c e1 e2 => by
    rw [List.getElem?_map] at e2
    cases e : m[i]? with
    | none => rw [e] at e2; cases e2
    | some b => rw [e] at e2; cases e2; exact h.2 i a b e1 e⟩
theorem atI_nat {α : Type} {xs : List α} {i : Nat} {v : α} (h : xs[i]? = some v) : atI xs (i : Int) = some v := by
  have hl : i < xs.length := (List.getElem?_eq_some_iff.mp h).1
  unfold atI ixN
  rw [if_pos (by omega), if_pos (by omega)]
  simpa using h
theorem w_range {lo m : Int} {k : Nat} (h : m.toNat = k) : Walk (Itr lo m.toNat) (List.range k).length (fun _ => True) (YFn fun i => .int (lo + i)) := by
  rw [List.length_range, h]; exact walk_range
theorem w_range0 {m : Int} {k : Nat} (h : m.toNat = k) : Walk (Itr 0 m.toNat) (List.range k).length (fun _ => True) (YFn fun i => .int (i : Nat)) :=
  (w_range h).mono (fun _ _ => trivial) fun i H x H' _ _ y => ⟨y.1, by rw [y.2]; show V.int (0 + (i : Int)) = V.int i; rw [Int.zero_add]⟩
theorem range_get {k i x : Nat} (h : (List.range k)[i]? = some x) : x = i ∧ i < k := by
  have hl : i < k := by have := (List.getElem?_eq_some_iff.mp h).1; simpa using this
  rw [List.getElem?_range hl] at h
  exact ⟨(Option.some.inj h).symm, hl⟩
theorem sz8 {n : Nat} (h : n ≤ 1000) : n < sizeLine := sz9 (by omega)
theorem getD_of {α : Type} {l : List α} {i : Nat} {x d : α} (h : l[i]? = some x) : l.getD i d = x := by rw [List.getD_eq_getElem?_getD, h]; rfl
section
variable {P : Program} {w : World} {K : PySem.W.Frag} {mg : Str → Option Value} {base : Heap}
theorem ok_node_orders (T : Txt w K mg) : FnR P w K mg base CX0 5 (gA "node_orders" K) (spNOrds K) := by
  obtain ⟨fd, F⟩ := T.f_node_orders
  refine mkR F sc_node_orders (fun _ _ _ _ _ _ us hl => match us, hl with | [_, _], _ => rfl) (fun vs H Q E h => ?_) (fun cdv A outer s H vs Q E hr h => ?_)
  · obtain ⟨r, n, a, cs, rfl, _⟩ := h
    rfl
  · obtain ⟨r, n, a, cs, rfl, hn, hl, ha, hc, q⟩ := h
    have nd := sc_node_orders.nd
    refine ⟨_, (pss_cons (ps_setLc (i := 2) (own := [("position", 5)]) (g := (gName 5)) (tt := tYes) (te := (StX.tMakeR (gA "Order" K) (spOrd K) E0 (tCons (tVar 5) tNil))) rfl nd rfl rfl (sw_true rfl rfl rfl (by decide +kernel)) (pi_range1 (by rfl) T.b_range (pa_cons (pe_op op_add (pv 0) pe_int) pa_nil)) (blkOk_by (N := ["n", "cells", "found", "upper", "lower", "position"]) (sc := defScope s_node_orders) (by decide +kernel)) (fun _ _ _ _ _ => (pg_name (i := 5) nd rfl (Or.inl rfl))) (fun _ _ _ _ _ => pts_nil) (fun _ _ _ _ _ => (rf_make T.mk_Order (ok_Order_init T) hr T.g_Order (pa_cons (pv 5) pa_nil))))
      (pss_cons (ps_for PassesOwn.never rfl (pi_tup (pv 1)) (pg_tup rfl (pgs_cons (pg_name (i := 3) nd rfl (Or.inl rfl)) (pgs_cons (pg_name (i := 4) nd rfl (Or.inl rfl)) pgs_nil)))
        (pss_one (ps_expr (pe_bm PySem.F.plainAttrs_list PySem.F.slot_list_append PySem.F.type_list_append mt_append (pv 2) (pa_cons (pe_op (op_ownAdd T.sf_Order T.m_Order_add (ok_Order_add T) hr) (pe_ix ix_list (pv 2) (pv 3) (fun _ _ => rfl)) (pe_ix ix_list (pv 2) (pv 4) (fun _ _ => rfl))) pa_nil)))))
      (pss_one (ps_ret (pv 2))))), ?_⟩
    refine ⟨_, rfl, _, _, rfl, rfl, _, rfl, by omega, by omega, ?_⟩
    intro D hD
    refine lc_map (items := List.range (n + 1)) hD (w_range0 (by omega)) (fun H v x => ∃ a, v = .ref a ∧ OrdAt K H a [x]) (fun H H' v x e ⟨a, h1, h2⟩ => ⟨a, h1, Ext.ord e h2⟩) (by rw [List.length_range]; exact sz8 (by omega)) (fun _ _ => trivial) (fun i x e H1 s1 Ky hy v H' y => ?_) (fun acc H1 s1 hd rel => ?_)
    · obtain ⟨rfl, rfl⟩ := y
      obtain ⟨rfl, hx⟩ := range_get e
      refine ⟨rfl, _, rfl, ?_⟩
      have z := mk_ord (K := K) (H := H') (ps := [x]) (Q := Ky) (by simp) (fun p hp => by simp at hp; omega) (fun b H2 s2 n o => hy _ _ s2 ⟨b, rfl, o⟩)
      exact z
    · obtain ⟨as0, rfl, rel0⟩ := refs_of rel
      obtain ⟨cas, hca, rc⟩ := ha
      refine ⟨_, rfl, a, rfl, ⟨_, Same.sqt s1 hca⟩, ?_⟩
      refine for_it walk_tup (fun i σ H2 => ∃ u v y as, σ = [some (.int n), some (.ref a), some (.ref D), u, v, y] ∧ Same H H2 ∧ H2 D = some (.lst (as.map V.ref)) ∧ Rel2 (OrdAt K H2) as (ords n (cs.take i)))
        ⟨none, none, none, as0, rfl, s1, hd, rel0.map⟩ (fun i σ H2 _ ⟨u, v, y, as, e, s2, _⟩ => Same.sqt s2 hca) (fun i x σ H2 H3 hi ⟨u, v, y, as, e, s2, hd2, rel2⟩ yy => ?_) (fun σ H2 ⟨u, v, y, as, e, s2, hd2, rel2⟩ => ?_)
      · obtain ⟨rfl, hx⟩ := yy
        obtain ⟨c, hc1, rfl⟩ := refs_get hx
        subst e
        obtain ⟨⟨cu, cl⟩, hcs, hcell⟩ := rc.get' hc1
        obtain ⟨a1, a2, a3, a4⟩ := hc i cu cl hcs
        have hi' : i < cs.length := (List.getElem?_eq_some_iff.mp hcs).1
        have hti : (cs.take i).length = i := by simp; omega
        have hlen := ords_len n (cs.take i)
        have gu : (ords n (cs.take i))[cu]? = some ((ords n (cs.take i)).getD cu []) := by rw [List.getD_eq_getElem?_getD, List.getElem?_eq_getElem (by omega)]; rfl
        have gl : (ords n (cs.take i))[cl]? = some ((ords n (cs.take i)).getD cl []) := by rw [List.getD_eq_getElem?_getD, List.getElem?_eq_getElem (by omega)]; rfl
        obtain ⟨au, hau, ou⟩ := rel2.get gu
        obtain ⟨al, hal, ol⟩ := rel2.get gl
        have ku := ords_ok (hc.take i) cu a1 (by omega)
        have kl := ords_ok (hc.take i) cl a3 (by omega)
        obtain ⟨dx, t, iu, tu⟩ := ou
        obtain ⟨dy, t2, il, tl⟩ := ol
        refine ⟨c, _, rfl, Same.sqt s2 hcell, rfl, _, _, rfl, _, _, rfl, rfl, ?_⟩
        refine ⟨_, rfl, .inl ⟨rfl, _, isL hd2⟩, ?_⟩
        refine ⟨_, rfl, _, rfl, D, _, cu, _, rfl, rfl, isL hd2, atI_nat (get_refs hau), ?_⟩
        refine ⟨_, rfl, _, rfl, D, _, cl, _, rfl, rfl, isL hd2, atI_nat (get_refs hal), ?_⟩
        refine ⟨au, dx, _, al, dy, _, rfl, rfl, iu, il, au, al, _, _, rfl, ⟨dx, t, iu, tu⟩, ⟨dy, t2, il, tl⟩, by have := ku.len; omega, by have := kl.len; omega, fun p hp => by have := (ku.bd p hp).2; omega, fun p hp => by have := (kl.bd p hp).2; omega, fun b H4 s4 n4 o4 => ?_⟩
        refine ⟨D, _, _, rfl, rfl, s4 _ _ hd2, ?_, ?_⟩
        · rw [List.length_map, rel2.1, hlen, hti]; exact sz8 (by omega)
        refine ⟨_, _, y, as ++ [b], rfl, Same.mut (s2.trans s4) hD, by rw [upd_same, List.map_append]; rfl, ?_⟩
        rw [ords_take hcs]
        have ex : Ext H4 (upd H4 D (.lst (as.map V.ref ++ [.ref b]))) := Ext.lst (s4 _ _ hd2)
        refine (rel2.imp fun _ _ o => Ext.ord ((Same.ext s4).trans ex) o).snoc ?_
        rw [f1_follow ku.nd ku.z kl.nd kl.z] at o4
        exact Ext.ord ex o4
      · subst e
        rw [List.length_map, rc.1, List.take_length] at rel2
        exact ⟨_, rfl, q H2 D as s2 hd2 rel2⟩
theorem get_nStrs {l : List Nat} {i n : Nat} (h : l[i]? = some n) : (nStrs l)[i]? = some (.str (st1 n)) := by
  rw [List.getElem?_map, h]; rfl
theorem ok_node_states (T : Txt w K mg) : FnR P w K mg base CX0 3 (gA "node_states" K) (spNSts K) := by
  obtain ⟨fd, F⟩ := T.f_node_states
  refine mkR F sc_node_states (fun _ _ _ _ _ _ us hl => match us, hl with | [_, _, _, _], _ => rfl) (fun vs H Q E h => ?_) (fun cdv A outer s H vs Q E hr h => ?_)
  · obtain ⟨r, n, a, d, z, cs, rfl, _⟩ := h
    rfl
  · obtain ⟨r, n, a, d, z, cs, rfl, hn, hl, ha, hc, hz, hd0, q⟩ := h
    have nd := sc_node_states.nd
    refine ⟨_, (pss_cons (ps_setLc (i := 4) (own := [("position", 9)]) (g := (gName 9)) (tt := tYes) (te := (tCR spStAt (tCons (tVar 2) (tCons (tVar 9) tNil)))) rfl nd rfl rfl (sw_true rfl rfl rfl (by decide +kernel)) (pi_range1 (by rfl) T.b_range (pa_cons (pe_op op_add (pv 0) pe_int) pa_nil)) (blkOk_by (N := ["n", "cells", "trial", "stuck", "found", "index", "upper", "lower", "joined", "position"]) (sc := defScope s_node_states) (by decide +kernel)) (fun _ _ _ _ _ => (pg_name (i := 9) nd rfl (Or.inl rfl))) (fun _ _ _ _ _ => pts_nil) (fun _ _ _ _ _ => (rf_call (ok_state_at T) hr T.g_state_at T.k_state_at (pa_cons (pv 2) (pa_cons (pv 9) pa_nil)))))
      (pss_cons (ps_for PassesOwn.never rfl (pi_enumT (by rfl) T.b_enumerate (pa_cons (pv 1) pa_nil)) (pg_tup rfl (pgs_cons (pg_name (i := 5) nd rfl (Or.inl rfl)) (pgs_cons (pg_tup rfl (pgs_cons (pg_name (i := 6) nd rfl (Or.inl rfl)) (pgs_cons (pg_name (i := 7) nd rfl (Or.inl rfl)) pgs_nil))) pgs_nil)))
        (pss_cons (ps_set (i := 8) nd rfl (Or.inl rfl) (pe_ifExp (pt_cmpR op_eq (pe_ix ix_list (pv 4) (pv 6) (fun _ _ => rfl)) (pe_gs T.c_PASS) (nomark _)) (pe_ix ix_list (pv 4) (pv 7) (fun _ _ => rfl)) (pe_ix ix_list (pv 4) (pv 6) (fun _ _ => rfl))))
      (pss_one (ps_expr (pe_bm PySem.F.plainAttrs_list PySem.F.slot_list_append PySem.F.type_list_append mt_append (pv 4) (pa_cons (pe_dget2 (hu_of hr) (pv 3) (pv 5) (pv 8) m2_here) pa_nil))))))
      (pss_one (ps_ret (pv 4))))), ?_⟩
    refine ⟨_, rfl, _, _, rfl, rfl, _, rfl, by omega, by omega, ?_⟩
    intro D hD
    refine lc_map (items := List.range (n + 1)) hD (w_range0 (by omega)) (fun H v x => v = .str (st1 (stAt z x))) (fun H H' v x e h => h) (by rw [List.length_range]; exact sz8 (by omega)) (fun _ _ => trivial) (fun i x e H1 s1 Ky hy v H' y => ?_) (fun acc H1 s1 hd rel => ?_)
    · obtain ⟨rfl, rfl⟩ := y
      obtain ⟨rfl, hx⟩ := range_get e
      exact ⟨rfl, _, rfl, _, rfl, z, x, rfl, by omega, by omega, hy _ _ (Same.refl _) rfl⟩
    · have ea : acc = nStrs ((List.range (n + 1)).map (stAt z)) := by rw [rel_map rel]; simp [nStrs]
      subst ea
      obtain ⟨cas, hca, rc⟩ := ha
      refine ⟨_, rfl, a, _, rfl, .inr ⟨Same.sqt s1 hca, ?_⟩⟩
      refine for_it walk_enumT (fun i σ H2 => ∃ u v y1 y2 y, σ = [some (.int n), some (.ref a), some (.str (sOf z)), some (.ref d), some (.ref D), u, v, y1, y2, y] ∧ Same H H2 ∧ H2 D = some (.lst (nStrs (sts z n (cs.take i)))))
        ⟨none, none, none, none, none, rfl, s1, hd⟩ (fun i σ H2 _ ⟨u, v, y1, y2, y, e, s2, _⟩ => Same.sqt s2 hca) (fun i x σ H2 H3 hi ⟨u, v, y1, y2, y, e, s2, hd2⟩ yy => ?_) (fun σ H2 ⟨u, v, y1, y2, y, e, s2, hd2⟩ => ?_)
      · obtain ⟨T', i', p', rfl, hT, rfl, ei, hx⟩ := yy
        obtain ⟨c, hc1, rfl⟩ := refs_get hx
        cases ei
        subst e
        obtain ⟨⟨cu, cl⟩, hcs, hcell⟩ := rc.get' hc1
        obtain ⟨a1, a2, a3, a4⟩ := hc i cu cl hcs
        have hi' : i < cs.length := (List.getElem?_eq_some_iff.mp hcs).1
        have hti : (cs.take i).length = i := by simp; omega
        have hlen := sts_len z n (cs.take i)
        have gu : (sts z n (cs.take i))[cu]? = some ((sts z n (cs.take i)).getD cu 80) := by rw [List.getD_eq_getElem?_getD, List.getElem?_eq_getElem (by omega)]; rfl
        have gl : (sts z n (cs.take i))[cl]? = some ((sts z n (cs.take i)).getD cl 80) := by rw [List.getD_eq_getElem?_getD, List.getElem?_eq_getElem (by omega)]; rfl
        have s3 : Same H (upd H2 T' (.tup [.int (i : Nat), .ref c])) := s2.trans (Same.new hT)
        have hd3 : (upd H2 T' (.tup [.int (i : Nat), .ref c])) D = some (.lst (nStrs (sts z n (cs.take i)))) := Same.new hT _ _ hd2
        have hst := sts_take (z := z) (n := n) hcs
        refine ⟨T', _, rfl, isT upd_same, rfl, _, _, rfl, _, _, rfl, ⟨c, _, rfl, Same.sqt s3 hcell, rfl, _, _, rfl, _, _, rfl, rfl, rfl, ?_⟩⟩
        refine ⟨_, rfl, _, rfl, D, _, cu, _, rfl, rfl, isL hd3, atI_nat (get_nStrs gu), rfl, _, rfl, ?_⟩
        rw [sP, dst1]
        have fin : ∀ jn, sts z n (cs.take (i + 1)) = sts z n (cs.take i) ++ [jn] → ∀ (DD : Ends), DD.nx = (fun σ H2 => ∃ u v y1 y2 y, σ = [some (.int n), some (.ref a), some (.str (sOf z)), some (.ref d), some (.ref D), u, v, y1, y2, y] ∧ Same H H2 ∧ H2 D = some (.lst (nStrs (sts z n (cs.take (i + 1)))))) →
            tDrop (tBM K "list" rAppend (tVar 4) (tCons (tDGet2 (tVar 3) (tVar 5) (tVar 8)) tNil)) DD [some (.int n), some (.ref a), some (.str (sOf z)), some (.ref d), some (.ref D), some (.int (i : Nat)), some (.int cu), some (.int cl), some (.str (st1 jn)), y] (upd H2 T' (.tup [.int (i : Nat), .ref c])) := by
          intro jn hj DD eD
          refine ⟨_, rfl, .inl ⟨rfl, _, isL hd3⟩, ?_⟩
          refine ⟨_, rfl, d, rfl, .inl ⟨[], .inl (s3 _ _ hd0)⟩, _, rfl, _, rfl, none, DGet.k (k := .inl (i : Int)) (s3 _ _ hd0), ?_⟩
          refine ⟨D, _, _, rfl, rfl, hd3, by rw [List.length_map, hlen, hti]; exact sz8 (by omega), ?_⟩
          rw [eD]
          refine ⟨_, _, _, _, y, rfl, Same.mut s3 hD, ?_⟩
          rw [upd_same, hj]
          simp [nStrs]
        by_cases hp : (sts z n (cs.take i)).getD cu 80 = 80
        · rw [decide_eq_true hp]
          refine iteT ⟨_, rfl, _, rfl, D, _, cl, _, rfl, rfl, isL hd3, atI_nat (get_nStrs gl), ?_⟩
          exact fin _ (by rw [hst, if_pos hp]) _ rfl
        · rw [decide_eq_false hp]
          refine iteF ⟨_, rfl, _, rfl, D, _, cu, _, rfl, rfl, isL hd3, atI_nat (get_nStrs gu), ?_⟩
          exact fin _ (by rw [hst, if_neg hp]) _ rfl
      · subst e
        rw [List.length_map, rc.1, List.take_length] at hd2
        exact ⟨_, rfl, q H2 D s2 hd2⟩
end
end Cp
/-! checked cells and outputs; the classes Network and Ring. -/
namespace Cp
open PySem PySem.Spec PyProof.Rows L2
abbrev ForB (g : TG) (tb : TS) (D : Ends) (σ : L2.St) (H : Hp) (J : It) : Prop := ∃ W : Nat → Nat → L2.St → Hp → Prop, (∃ m, W 0 m σ H) ∧ ∀ i m σ H, W i m σ H →
  (J.stop i H ∧ D.nx σ H) ∨ (J.go i H ∧ ∃ N : L2.St → Hp → Prop, (∀ σ' H', N σ' H' → ∃ m', m' < m ∧ W (i + 1) m' σ' H') ∧ ∀ x H', J.yld i H x H' → g x σ H' fun σ2 H2 => tb { D with nx := N, ct := N, bk := D.nx } σ2 H2)
theorem for_enumA {K : PySem.W.Frag} {H : Hp} {a : Addr} {xs : List V} {g : TG} {tb : TS} {D : Ends} {σ : L2.St} (hs : SqL K H a xs ∨ SqT K H a xs) (Pv : Nat → L2.St → Hp → Prop) (h0 : Pv 0 σ H) (hG : ∀ i σ H2, i ≤ xs.length → Pv i σ H2 → Same H H2)
    (hs : ∀ i x σ H H', i < xs.length → Pv i σ H → YPair (fun i => some (.int (i : Nat))) (fun i => xs[i]?) i H x H' → g x σ H' fun σ2 H2 => tb { D with nx := Pv (i + 1), ct := Pv (i + 1), bk := D.nx } σ2 H2) (hd : ∀ σ H, Pv xs.length σ H → D.nx σ H) :
    (SqL K H a xs ∧ ForB g tb D σ H (Ite K a)) ∨ (SqT K H a xs ∧ ForB g tb D σ H (IteT K a)) := by
  rename_i hs0
  rcases hs0 with q | q
  · exact .inl ⟨q, for_it walk_enum Pv h0 (fun i σ H2 hi p => Same.sql (hG i σ H2 hi p) q) hs hd⟩
  · exact .inr ⟨q, for_it walk_enumT Pv h0 (fun i σ H2 hi p => Same.sqt (hG i σ H2 hi p) q) hs hd⟩
section
variable {P : Program} {w : World} {K : PySem.W.Frag} {mg : Str → Option Value} {base : Heap}
def CellsA (K : PySem.W.Frag) (H : Hp) (a : Addr) (cs : List (Nat × Nat)) : Prop := ∃ as : List Addr, (SqL K H a (as.map V.ref) ∨ SqT K H a (as.map V.ref)) ∧ Rel2 (CellAt K H) as cs
theorem CellsA.mono {H H' : Hp} {a : Addr} {cs : List (Nat × Nat)} (s : Same H H') (h : CellsA K H a cs) : CellsA K H' a cs :=
  let ⟨as, h1, h2⟩ := h; ⟨as, h1.imp (Same.sql s) (Same.sqt s), h2.imp fun _ _ q => CellAt.mono s q⟩
theorem CellsT.any {H : Hp} {a : Addr} {cs : List (Nat × Nat)} (h : CellsT K H a cs) : CellsA K H a cs := let ⟨as, h1, h2⟩ := h; ⟨as, .inr h1, h2⟩
theorem CellsL.any {H : Hp} {a : Addr} {cs : List (Nat × Nat)} (h : CellsL K H a cs) : CellsA K H a cs := let ⟨as, h1, h2⟩ := h; ⟨as, .inl h1, h2⟩
def spCC (K : PySem.W.Frag) : Sp := fun vs H Q _ => ∃ (r : Bool) (n : Nat) (a : Addr) (cs : List (Nat × Nat)), vs = [.int n, .ref a, .int (low r : Nat)] ∧ n ≤ 24 ∧ cs.length ≤ 150 ∧ CellsA K H a cs ∧ CellsOk r n cs ∧
  ∀ H' b, Same H H' → CellsT K H' b cs → Q (.ref b) H'
theorem sc_checked_cells : FnScope ["n", "cells", "lowest", "index", "cell"] ["n", "cells", "lowest"] (defScope s_checked_cells) := ⟨rfl, rfl, rfl, by decide +kernel, rfl, by decide +kernel, by decide +kernel⟩
theorem ok_checked_cells (T : Txt w K mg) : FnR P w K mg base CX0 3 (gA "checked_cells" K) (spCC K) := by
  obtain ⟨fd, F⟩ := T.f_checked_cells
  refine mkR F sc_checked_cells (fun _ _ _ _ _ _ us hl => match us, hl with | [_, _, _], _ => rfl) (fun vs H Q E h => ?_) (fun cdv A outer s H vs Q E hr h => ?_)
  · obtain ⟨r, n, a, cs, rfl, _⟩ := h
    rfl
  · obtain ⟨r, n, a, cs, rfl, hn, hl, ⟨cas, hca, rc⟩, hc, q⟩ := h
    have nd := sc_checked_cells.nd
    refine ⟨_, (pss_cons (ps_if (PW.pt (pw_or (pt_not (pt_val (rf_call (ok_is_sequence T) hr T.g_is_sequence T.k_is_sequence (pa_cons (pv 1) pa_nil)))) (pw_or1 (pt_cmpR op_gt (pe_callB call_len (by rfl) T.b_len (by decide +kernel) (pa_cons (pv 1) pa_nil)) (pe_gi T.c_MOST_CELLS) (nomark _))))) (pss_one ps_never) pss_nil)
      (pss_cons (ps_for PassesOwn.never rfl (pi_enumT (by rfl) T.b_enumerate (pa_cons (pv 1) pa_nil)) (pg_tup rfl (pgs_cons (pg_name (i := 3) nd rfl (Or.inl rfl)) (pgs_cons (pg_name (i := 4) nd rfl (Or.inl rfl)) pgs_nil)))
        (pss_one (ps_if (pt_not (pt_val (rf_call (ok_is_cell T) hr T.g_is_cell T.k_is_cell (pa_cons (pv 4) (pa_cons (pv 2) (pa_cons (pe_op op_add (pe_op op_add (pv 0) pe_int) (pv 3)) pa_nil)))))) (pss_one ps_never) pss_nil)))
      (pss_one (ps_ret (pe_callTy call_tuple_of (by rfl) T.b_tuple (by decide +kernel) (pa_cons (pv 1) pa_nil)))))), ?_⟩
    have hl2 : (cas.map V.ref).length = cs.length := by rw [List.length_map]; exact rc.1
    refine ⟨_, rfl, a, rfl, hca.elim (fun q => .inr ⟨_, q⟩) (fun q => .inl ⟨_, q⟩), fun H1 s1 => ⟨_, rfl, iteF ?_⟩⟩
    have hca1 : SqL K H1 a (cas.map V.ref) ∨ SqT K H1 a (cas.map V.ref) := hca.imp (Same.sql s1) (Same.sqt s1)
    refine ⟨_, rfl, _, _, rfl, hca1.imp (fun q => ⟨_, q, rfl⟩) (fun q => ⟨_, q, rfl⟩), _, _, rfl, rfl, _, rfl, ?_⟩
    rw [decide_eq_false (by rw [hl2]; omega)]
    refine iteF ?_
    refine ⟨_, rfl, a, _, rfl, for_enumA hca1 (fun i σ H2 => ∃ u v, σ = [some (.int n), some (.ref a), some (.int (low r : Nat)), u, v] ∧ Same H1 H2) ⟨none, none, rfl, Same.refl _⟩ (fun i σ H2 _ ⟨u, v, e, s2⟩ => s2) (fun i x σ H2 H3 hi ⟨u, v, e, s2⟩ yy => ?_) (fun σ H2 ⟨u, v, e, s2⟩ => ?_)⟩
    · obtain ⟨T', i', p', rfl, hT, rfl, ei, hx⟩ := yy
      obtain ⟨c, hc1, rfl⟩ := refs_get hx
      cases ei
      subst e
      obtain ⟨⟨cu, cl⟩, hcs, hcell⟩ := rc.get' hc1
      obtain ⟨a1, a2, a3, a4⟩ := hc i cu cl hcs
      have s3 : Same H1 (upd H2 T' (.tup [.int (i : Nat), .ref c])) := s2.trans (Same.new hT)
      refine ⟨T', _, rfl, isT upd_same, rfl, _, _, rfl, _, _, rfl, rfl, ?_⟩
      refine ⟨_, rfl, _, rfl, _, rfl, _, _, rfl, rfl, _, rfl, _, _, rfl, rfl, ?_⟩
      refine ⟨c, (cu, cl), _, _, rfl, Same.sqt (s1.trans s3) hcell, ⟨by omega, by omega, by omega, by omega⟩, true, rfl, iteF ?_⟩
      exact ⟨_, _, rfl, s3⟩
    · subst e
      have rc2 := rc.imp fun _ _ z => CellAt.mono (s1.trans s2) z
      refine ⟨_, rfl, a, cas.map V.ref, rfl, ?_⟩
      rcases hca1 with h | h
      · exact .inl ⟨Same.sql s2 h, fun b hb => q _ b ((s1.trans s2).trans (Same.new hb)) ⟨cas, isT upd_same, rc2.imp fun _ _ z => CellAt.mono (Same.new hb) z⟩⟩
      · exact .inr ⟨Same.sqt s2 h, q _ a (s1.trans s2) ⟨cas, Same.sqt s2 h, rc2⟩⟩
def spCO (K : PySem.W.Frag) : Sp := fun vs H Q _ => ∃ (r : Bool) (n m : Nat) (a : Addr) (os : List Nat), vs = [.int n, .int m, .ref a, .int (low r : Nat)] ∧ n ≤ 24 ∧ (SqL K H a (nInts os) ∨ SqT K H a (nInts os)) ∧ os.length = n + 1 - low r ∧ (∀ o ∈ os, low r ≤ o ∧ o ≤ n + m) ∧
  ∀ H' b, Same H H' → SqT K H' b (nInts os) → Q (.ref b) H'
theorem sc_checked_outputs : FnScope ["n", "many", "outputs", "lowest", "index", "node"] ["n", "many", "outputs", "lowest"] (defScope s_checked_outputs) := ⟨rfl, rfl, rfl, by decide +kernel, rfl, by decide +kernel, by decide +kernel⟩
theorem low_le (r : Bool) : low r ≤ 1 := by cases r <;> simp [low]
theorem ok_checked_outputs (T : Txt w K mg) : FnR P w K mg base CX0 2 (gA "checked_outputs" K) (spCO K) := by
  obtain ⟨fd, F⟩ := T.f_checked_outputs
  refine mkR F sc_checked_outputs (fun _ _ _ _ _ _ us hl => match us, hl with | [_, _, _, _], _ => rfl) (fun vs H Q E h => ?_) (fun cdv A outer s H vs Q E hr h => ?_)
  · obtain ⟨r, n, m, a, os, rfl, _⟩ := h
    rfl
  · obtain ⟨r, n, m, a, os, rfl, hn, ha, hl, hb, q⟩ := h
    have nd := sc_checked_outputs.nd
    have hlow := low_le r
    refine ⟨_, (pss_cons (ps_if (PW.pt (pw_or (pt_not (pt_val (rf_call (ok_is_sequence T) hr T.g_is_sequence T.k_is_sequence (pa_cons (pv 2) pa_nil)))) (pw_or1 (pt_cmpR op_ne (pe_callB call_len (by rfl) T.b_len (by decide +kernel) (pa_cons (pv 2) pa_nil)) (pe_op op_sub (pe_op op_add (pv 0) pe_int) (pv 3)) (nomark _))))) (pss_one ps_never) pss_nil)
      (pss_cons (ps_for PassesOwn.never rfl (pi_enumT (by rfl) T.b_enumerate (pa_cons (pv 2) pa_nil)) (pg_tup rfl (pgs_cons (pg_name (i := 4) nd rfl (Or.inl rfl)) (pgs_cons (pg_name (i := 5) nd rfl (Or.inl rfl)) pgs_nil)))
        (pss_one (ps_if (pt_not (pt_val (rf_call (ok_is_between T) hr T.g_is_between T.k_is_between (pa_cons (pv 5) (pa_cons (pv 3) (pa_cons (pe_op op_add (pv 0) (pv 1)) pa_nil)))))) (pss_one ps_never) pss_nil)))
      (pss_one (ps_ret (pe_callTy call_tuple_of (by rfl) T.b_tuple (by decide +kernel) (pa_cons (pv 2) pa_nil)))))), ?_⟩
    refine ⟨_, rfl, a, rfl, ha.elim (fun q => .inr ⟨_, q⟩) (fun q => .inl ⟨_, q⟩), fun H1 s1 => ⟨_, rfl, iteF ?_⟩⟩
    have ha1 : SqL K H1 a (nInts os) ∨ SqT K H1 a (nInts os) := ha.imp (Same.sql s1) (Same.sqt s1)
    refine ⟨_, rfl, _, _, rfl, ha1.imp (fun q => ⟨_, q, rfl⟩) (fun q => ⟨_, q, rfl⟩), _, rfl, _, _, rfl, rfl, _, rfl, _, _, rfl, rfl, rfl, _, rfl, ?_⟩
    rw [dInt, decide_eq_true (by rw [nInts_len]; omega)]
    refine iteF ?_
    refine ⟨_, rfl, a, _, rfl, for_enumA ha1 (fun i σ H2 => ∃ u v, σ = [some (.int n), some (.int m), some (.ref a), some (.int (low r : Nat)), u, v] ∧ Same H1 H2) ⟨none, none, rfl, Same.refl _⟩ (fun i σ H2 _ ⟨u, v, e, s2⟩ => s2) (fun i x σ H2 H3 hi ⟨u, v, e, s2⟩ yy => ?_) (fun σ H2 ⟨u, v, e, s2⟩ => ?_)⟩
    · obtain ⟨T', i', p', rfl, hT, rfl, ei, hx⟩ := yy
      obtain ⟨o, ho, rfl⟩ := nInts_get hx
      cases ei
      subst e
      have s3 : Same H1 (upd H2 T' (.tup [.int (i : Nat), .int (o : Int)])) := s2.trans (Same.new hT)
      obtain ⟨b1, b2⟩ := hb o (List.mem_of_getElem? ho)
      refine ⟨T', _, rfl, isT upd_same, rfl, _, _, rfl, _, _, rfl, rfl, ?_⟩
      refine ⟨_, rfl, _, rfl, _, rfl, _, rfl, _, _, rfl, rfl, _, _, _, rfl, ?_⟩
      rw [decide_eq_true (by omega)]
      exact ⟨true, rfl, iteF ⟨_, _, rfl, s3⟩⟩
    · subst e
      refine ⟨_, rfl, a, nInts os, rfl, ?_⟩
      rcases ha1 with h | h
      · exact .inl ⟨Same.sql s2 h, fun b hb => q _ b ((s1.trans s2).trans (Same.new hb)) (isT upd_same)⟩
      · exact .inr ⟨Same.sqt s2 h, q _ a (s1.trans s2) (Same.sqt s2 h)⟩
end
end Cp
/-! The classes Network and Ring. -/
namespace Cp
open PySem PySem.Spec PyProof.Rows L2
section
variable {K : PySem.W.Frag} {H H' : Hp} {x b C dx : Addr} {ys : List V} {fs : List (Str × V)}
theorem sqt_x (h : SqT K H b ys) (hx : H x = some (.ins C dx fs)) (s : SameX [x] H H') : SqT K H' b ys :=
  h.elim (fun h => .inl (h.elim (fun h => .inl (s _ _ (by simp; exact ne_of h hx (fun z => by cases z)) h)) fun ⟨o', h⟩ => .inr ⟨o', s _ _ (by simp; exact ne_of h hx (fun z => by cases z)) h⟩)) .inr
theorem sql_x (h : SqL K H b ys) (hx : H x = some (.ins C dx fs)) (s : SameX [x] H H') : SqL K H' b ys :=
  h.elim (fun h => .inl (h.elim (fun h => .inl (s _ _ (by simp; exact ne_of h hx (fun z => by cases z)) h)) fun ⟨o', h⟩ => .inr ⟨o', s _ _ (by simp; exact ne_of h hx (fun z => by cases z)) h⟩)) .inr
theorem cellsA_x {cs : List (Nat × Nat)} (h : CellsA K H b cs) (hx : H x = some (.ins C dx fs)) (s : SameX [x] H H') : CellsA K H' b cs :=
  let ⟨as, h1, h2⟩ := h; ⟨as, h1.imp (fun q => sql_x q hx s) (fun q => sqt_x q hx s), h2.imp fun _ _ q => sqt_x q hx s⟩
theorem cellsT_x {cs : List (Nat × Nat)} (h : CellsT K H b cs) (hx : H x = some (.ins C dx fs)) (s : SameX [x] H H') : CellsT K H' b cs :=
  let ⟨as, h1, h2⟩ := h; ⟨as, sqt_x h1 hx s, h2.imp fun _ _ q => sqt_x q hx s⟩
end
theorem NetOk.cells {r : Bool} {M : Net} (h : NetOk r M) : CellsOk r M.n M.cs := h.cell
section
variable {P : Program} {w : World} {K : PySem.W.Frag} {mg : Str → Option Value} {base : Heap}
theorem Txt.v_low (T : Txt w K mg) (r : Bool) : ∃ u, Con K (gN r K) "LOWEST" (.int (low r : Nat)) u := by
  cases r
  · exact T.v_Network_LOWEST
  · exact T.v_Ring_LOWEST
def spNet (K : PySem.W.Frag) (r : Bool) : Sp := fun vs H Q _ => ∃ (x dx a b : Addr) (M : Net), vs = [.ref x, .int M.n, .ref a, .ref b] ∧ H x = some (.ins (gN r K) dx []) ∧ CellsA K H a M.cs ∧ (SqL K H b (nInts M.os) ∨ SqT K H b (nInts M.os)) ∧ NetOk r M ∧
  ∀ H', SameX [x] H H' → NetAt K r H' x M → Q .non H'
theorem sc_Network_init : FnScope ["self", "n", "cells", "outputs"] ["self", "n", "cells", "outputs"] (defScope s_Network_init) := ⟨rfl, rfl, rfl, by decide +kernel, rfl, by decide +kernel, by decide +kernel⟩
theorem ok_Network_init (T : Txt w K mg) (r : Bool) : FnR P w K mg base CX0 4 (mN r "__init__" K) (spNet K r) := by
  obtain ⟨fd, F⟩ := T.f_N_init r
  refine mkR F sc_Network_init (fun _ _ _ _ _ _ us hl => match us, hl with | [_, _, _, _], _ => rfl) (fun vs H Q E h => ?_) (fun cdv A outer s H vs Q E hr h => ?_)
  · obtain ⟨x, dx, a, b, M, rfl, _⟩ := h
    rfl
  · obtain ⟨x, dx, a, b, M, rfl, hx, ha, hb, hM, q⟩ := h
    have nd := sc_Network_init.nd
    obtain ⟨u1, c1⟩ := T.v_N_LEAST_BITS r
    obtain ⟨u2, c2⟩ := T.v_N_MOST_BITS r
    obtain ⟨u3, c3⟩ := T.v_low r
    have cl := T.cl_N r
    have hlo : (if r then 2 else 1 : Int) ≤ M.n := by have := hM.lo; cases r <;> simp [low] at this ⊢ <;> omega
    have hhi := hM.hi
    refine ⟨_, (pss_cons (ps_if (pt_not (pt_val (rf_call (ok_is_between T) hr T.g_is_between T.k_is_between (pa_cons (pv 1) (pa_cons (pe_con (pv 0) rfl) (pa_cons (pe_con (pv 0) rfl) pa_nil)))))) (pss_one ps_never) pss_nil)
      (pss_cons (ps_fld (pv 0) (pv 1) rfl)
      (pss_cons (ps_fld (pv 0) (rf_call (ok_checked_cells T) hr T.g_checked_cells T.k_checked_cells (pa_cons (pv 1) (pa_cons (pv 2) (pa_cons (pe_con (pv 0) rfl) pa_nil)))) rfl)
      (pss_cons (ps_fld (pv 0) (rf_call (ok_checked_outputs T) hr T.g_checked_outputs T.k_checked_outputs (pa_cons (pv 1) (pa_cons (pe_callB call_len (by rfl) T.b_len (by decide +kernel) (pa_cons (pe_fld (pv 0) rfl) pa_nil)) (pa_cons (pv 3) (pa_cons (pe_con (pv 0) rfl) pa_nil))))) rfl)
      (pss_one (ps_fld (pv 0) pe_unit0 rfl)))))), ?_⟩
    refine ⟨_, rfl, _, rfl, x, _, dx, [], _, u1, rfl, hx, cl, c1, rfl, _, rfl, x, _, dx, [], _, u2, rfl, hx, cl, c2, rfl, M.n, _, 24, rfl, ?_⟩
    rw [decide_eq_true ⟨hlo, by omega⟩]
    refine ⟨true, rfl, iteF ?_⟩
    refine ⟨_, rfl, _, rfl, x, _, dx, [], rfl, hx, cl, T.n_N_bits r, by decide, ?_⟩
    generalize hH1 : upd H x (.ins (gN r K) dx (putF "bits" (.int (M.n : Int)) [])) = H1
    have hx1 : H1 x = some (.ins (gN r K) dx [("bits", .int (M.n : Int))]) := by rw [← hH1, upd_same]; rfl
    have s1 : SameX [x] H H1 := by rw [← hH1]; exact (SameX.refl _).at_ (by simp)
    refine ⟨_, rfl, _, rfl, _, rfl, x, _, dx, _, _, u3, rfl, hx1, cl, c3, rfl, r, M.n, a, M.cs, rfl, hhi, hM.many, cellsA_x ha hx s1, hM.cells, fun H2 j s2 hj => ?_⟩
    have hx2 := s2 _ _ hx1
    refine ⟨_, rfl, x, _, dx, _, rfl, hx2, cl, T.n_N_joins r, by simp, ?_⟩
    generalize hH3 : upd H2 x (.ins (gN r K) dx (putF "joins" (.ref j) [("bits", .int (M.n : Int))])) = H3
    have hx3 : H3 x = some (.ins (gN r K) dx [("bits", .int (M.n : Int)), ("joins", .ref j)]) := by rw [← hH3, upd_same]; rfl
    have s3' : SameX [x] H2 H3 := by rw [← hH3]; exact (SameX.refl _).at_ (by simp)
    have s3 : SameX [x] H H3 := (s1.trans (SameX.of s2)).trans s3'
    have hj3 := cellsT_x hj hx2 s3'
    obtain ⟨cas, hca, rc⟩ := id hj3
    refine ⟨_, rfl, _, rfl, x, _, dx, _, _, rfl, hx3, cl, T.n_N_joins r, rfl, _, M.cs.length, rfl, .inr ⟨_, hca, by rw [List.length_map]; exact rc.1.symm⟩, ?_⟩
    refine ⟨_, rfl, _, rfl, x, _, dx, _, _, u3, rfl, hx3, cl, c3, rfl, r, M.n, M.cs.length, b, M.os, rfl, hhi, hb.imp (fun q => sql_x q hx s3) (fun q => sqt_x q hx s3), hM.outs, hM.out, fun H4 e s4 he => ?_⟩
    have hx4 := s4 _ _ hx3
    refine ⟨_, rfl, x, _, dx, _, rfl, hx4, cl, T.n_N_ends r, by simp, ?_⟩
    generalize hH5 : upd H4 x (.ins (gN r K) dx (putF "ends" (.ref e) [("bits", .int (M.n : Int)), ("joins", .ref j)])) = H5
    have hx5 : H5 x = some (.ins (gN r K) dx [("bits", .int (M.n : Int)), ("joins", .ref j), ("ends", .ref e)]) := by rw [← hH5, upd_same]; rfl
    have s5' : SameX [x] H4 H5 := by rw [← hH5]; exact (SameX.refl _).at_ (by simp)
    have s5 : SameX [x] H H5 := (s3.trans (SameX.of s4)).trans s5'
    intro p o ho hp
    refine ⟨_, rfl, x, _, dx, _, rfl, Same.new hp _ _ hx5, cl, T.n_N_held r, by simp, ?_⟩
    generalize hH6 : upd (upd H5 p (.frz o (.tup []))) x (.ins (gN r K) dx (putF "held" (.ref p) [("bits", .int (M.n : Int)), ("joins", .ref j), ("ends", .ref e)])) = H6
    have hx6 : H6 x = some (.ins (gN r K) dx (nf M.n j e p)) := by rw [← hH6, upd_same]; rfl
    have s6 : SameX [x] H5 H6 := by rw [← hH6]; exact (SameX.of (Same.new hp)).at_ (by simp)
    have hpx : p ≠ x := fun z => by rw [z, hx5] at hp; cases hp
    exact q _ (s5.trans s6) ⟨dx, j, e, p, hx6, cellsT_x (CellsT.mono s4 hj3) hx4 (s5'.trans s6), sqt_x he hx4 (s5'.trans s6), o, ho, by rw [← hH6, upd_ne hpx, upd_same]⟩
/-- a network is made -/
theorem mk_net {H : Hp} {r : Bool} {M : Net} {a b : Addr} {Q : VK} (ha : CellsA K H a M.cs) (hb : SqL K H b (nInts M.os) ∨ SqT K H b (nInts M.os)) (hM : NetOk r M) (q : ∀ x H', Same H H' → H x = none → NetAt K r H' x M → Q (.ref x) H') :
    ∀ x dx, H x = none → H dx = none → dx ≠ x → spNet K r [.ref x, .int M.n, .ref a, .ref b] (upd (upd H dx (.own x)) x (.ins (gN r K) dx [])) (fun v H2 => v = .non ∧ Q (.ref x) H2) E0 :=
  fun x dx n d nx => by
    have s : Same H (upd (upd H dx (.own x)) x (.ins (gN r K) dx [])) := (Same.new d).trans (Same.new (by rw [upd_ne (Ne.symm nx)]; exact n))
    exact ⟨x, dx, a, b, M, rfl, upd_same, CellsA.mono s ha, hb.imp (Same.sql s) (Same.sqt s), hM, fun H' s' o => ⟨rfl, q x H' (Same.made' n d s') n o⟩⟩
def spSize (K : PySem.W.Frag) (r : Bool) : Sp := fun vs H Q _ => ∃ (a : Addr) (M : Net), vs = [.ref a] ∧ NetAt K r H a M ∧ Q (.int M.n) H
theorem sc_Network_size : FnScope ["self"] ["self"] (defScope s_Network_size) := ⟨rfl, rfl, rfl, by decide +kernel, rfl, by decide +kernel, by decide +kernel⟩
theorem ok_Network_size (T : Txt w K mg) (r : Bool) : FnR P w K mg base CX0 1 (pN r "size" K) (spSize K r) := by
  obtain ⟨fd, F⟩ := T.f_N_size r
  refine mkR F sc_Network_size (fun _ _ _ _ _ _ us hl => match us, hl with | [_], _ => rfl) (fun vs H Q E h => ?_) (fun cdv A outer s H vs Q E hr h => ?_)
  · obtain ⟨a, M, rfl, _⟩ := h
    rfl
  · obtain ⟨a, M, rfl, ⟨dx, j, e, hd, h1, h2, h3, h4⟩, q⟩ := h
    have nd := sc_Network_size.nd
    refine ⟨_, (pss_one (ps_ret (pe_fld (pv 0) rfl))), ?_⟩
    exact ⟨_, rfl, a, _, dx, _, _, rfl, h1, T.cl_N r, T.n_N_bits r, rfl, q⟩
def spCells (K : PySem.W.Frag) (r : Bool) : Sp := fun vs H Q _ => ∃ (a : Addr) (M : Net), vs = [.ref a] ∧ NetAt K r H a M ∧ ∀ j, CellsT K H j M.cs → Q (.ref j) H
theorem sc_Network_cells : FnScope ["self"] ["self"] (defScope s_Network_cells) := ⟨rfl, rfl, rfl, by decide +kernel, rfl, by decide +kernel, by decide +kernel⟩
theorem ok_Network_cells (T : Txt w K mg) (r : Bool) : FnR P w K mg base CX0 1 (pN r "cells" K) (spCells K r) := by
  obtain ⟨fd, F⟩ := T.f_N_cells r
  refine mkR F sc_Network_cells (fun _ _ _ _ _ _ us hl => match us, hl with | [_], _ => rfl) (fun vs H Q E h => ?_) (fun cdv A outer s H vs Q E hr h => ?_)
  · obtain ⟨a, M, rfl, _⟩ := h
    rfl
  · obtain ⟨a, M, rfl, ⟨dx, j, e, hd, h1, h2, h3, h4⟩, q⟩ := h
    have nd := sc_Network_cells.nd
    refine ⟨_, (pss_one (ps_ret (pe_fld (pv 0) rfl))), ?_⟩
    exact ⟨_, rfl, a, _, dx, _, _, rfl, h1, T.cl_N r, T.n_N_joins r, rfl, q j h2⟩
def spOuts (K : PySem.W.Frag) (r : Bool) : Sp := fun vs H Q _ => ∃ (a : Addr) (M : Net), vs = [.ref a] ∧ NetAt K r H a M ∧ ∀ j, SqT K H j (nInts M.os) → Q (.ref j) H
theorem sc_Network_outputs : FnScope ["self"] ["self"] (defScope s_Network_outputs) := ⟨rfl, rfl, rfl, by decide +kernel, rfl, by decide +kernel, by decide +kernel⟩
theorem ok_Network_outputs (T : Txt w K mg) (r : Bool) : FnR P w K mg base CX0 1 (pN r "outputs" K) (spOuts K r) := by
  obtain ⟨fd, F⟩ := T.f_N_outputs r
  refine mkR F sc_Network_outputs (fun _ _ _ _ _ _ us hl => match us, hl with | [_], _ => rfl) (fun vs H Q E h => ?_) (fun cdv A outer s H vs Q E hr h => ?_)
  · obtain ⟨a, M, rfl, _⟩ := h
    rfl
  · obtain ⟨a, M, rfl, ⟨dx, j, e, hd, h1, h2, h3, h4⟩, q⟩ := h
    have nd := sc_Network_outputs.nd
    refine ⟨_, (pss_one (ps_ret (pe_fld (pv 0) rfl))), ?_⟩
    exact ⟨_, rfl, a, _, dx, _, _, rfl, h1, T.cl_N r, T.n_N_ends r, rfl, q e h3⟩
def spNeedNode (K : PySem.W.Frag) (r : Bool) : Sp := fun vs H Q _ => ∃ (a : Addr) (M : Net) (o : Nat), vs = [.ref a, .int o] ∧ NetAt K r H a M ∧ low r ≤ o ∧ o ≤ M.n + M.cs.length ∧ Q .non H
theorem sc_Network_need_node : FnScope ["self", "node"] ["self", "node"] (defScope s_Network_need_node) := ⟨rfl, rfl, rfl, by decide +kernel, rfl, by decide +kernel, by decide +kernel⟩
theorem ok_Network_need_node (T : Txt w K mg) (r : Bool) : FnR P w K mg base CX0 2 (mN r "need_node" K) (spNeedNode K r) := by
  obtain ⟨fd, F⟩ := T.f_N_need_node r
  refine mkR F sc_Network_need_node (fun _ _ _ _ _ _ us hl => match us, hl with | [_, _], _ => rfl) (fun vs H Q E h => ?_) (fun cdv A outer s H vs Q E hr h => ?_)
  · obtain ⟨a, M, o, rfl, _⟩ := h
    rfl
  · obtain ⟨a, M, o, rfl, ⟨dx, j, e, hd, h1, ⟨cas, hca, rc⟩, h3, h4⟩, b1, b2, q⟩ := h
    have nd := sc_Network_need_node.nd
    have cl := T.cl_N r
    obtain ⟨u3, c3⟩ := T.v_low r
    refine ⟨_, (pss_one (ps_if (pt_not (pt_val (rf_call (ok_is_between T) hr T.g_is_between T.k_is_between (pa_cons (pv 1) (pa_cons (pe_con (pv 0) rfl) (pa_cons (pe_op op_add (pe_fld (pv 0) rfl) (pe_callB call_len (by rfl) T.b_len (by decide +kernel) (pa_cons (pe_fld (pv 0) rfl) pa_nil))) pa_nil)))))) (pss_one ps_never) pss_nil)), ?_⟩
    refine ⟨_, rfl, _, rfl, a, _, dx, _, _, u3, rfl, h1, cl, c3, rfl, _, rfl, a, _, dx, _, _, rfl, h1, cl, T.n_N_bits r, rfl, _, rfl, a, _, dx, _, _, rfl, h1, cl, T.n_N_joins r, rfl, _, M.cs.length, rfl, .inr ⟨_, hca, by rw [List.length_map]; exact rc.1.symm⟩, _, _, rfl, rfl, o, _, _, rfl, ?_⟩
    rw [decide_eq_true ⟨by omega, by omega⟩]
    exact ⟨true, rfl, iteF q⟩
def spNeedTrial (K : PySem.W.Frag) (r : Bool) : Sp := fun vs H Q _ => ∃ (a : Addr) (M : Net) (z : List Nat), vs = [.ref a, .str (sOf z)] ∧ NetAt K r H a M ∧ M.n ≤ 24 ∧ TrialOk r M.n z ∧ ∀ H', Same H H' → Q .non H'
theorem sc_Network_need_trial : FnScope ["self", "trial"] ["self", "trial"] (defScope s_Network_need_trial) := ⟨rfl, rfl, rfl, by decide +kernel, rfl, by decide +kernel, by decide +kernel⟩
theorem sc_Ring_need_trial : FnScope ["self", "trial"] ["self", "trial"] (defScope s_Ring_need_trial) := ⟨rfl, rfl, rfl, by decide +kernel, rfl, by decide +kernel, by decide +kernel⟩
theorem ok_need_trial (T : Txt w K mg) : ∀ r : Bool, FnR P w K mg base CX0 3 (mN r "need_trial" K) (spNeedTrial K r)
  | false => by
    obtain ⟨fd, F⟩ := T.f_Network_need_trial
    refine mkR F sc_Network_need_trial (fun _ _ _ _ _ _ us hl => match us, hl with | [_, _], _ => rfl) (fun vs H Q E h => ?_) (fun cdv A outer s H vs Q E hr h => ?_)
    · obtain ⟨a, M, z, rfl, _⟩ := h
      rfl
    · obtain ⟨a, M, z, rfl, ⟨dx, j, e, hd, h1, h2, h3, h4⟩, b1, b2, q⟩ := h
      have nd := sc_Network_need_trial.nd
      refine ⟨_, (pss_one (ps_if (pt_not (pt_val (rf_call (ok_is_trial T) hr T.g_is_trial T.k_is_trial (pa_cons (pv 1) (pa_cons (pe_fld (pv 0) rfl) pa_nil))))) (pss_one ps_never) pss_nil)), ?_⟩
      exact ⟨_, rfl, _, rfl, a, _, dx, _, _, rfl, h1, T.cl_N false, T.n_N_bits false, rfl, z, M.n, rfl, b2, b1, fun H1 s1 => ⟨true, rfl, iteF (q H1 s1)⟩⟩
  | true => by
    obtain ⟨fd, F⟩ := T.f_Ring_need_trial
    refine mkR F sc_Ring_need_trial (fun _ _ _ _ _ _ us hl => match us, hl with | [_, _], _ => rfl) (fun vs H Q E h => ?_) (fun cdv A outer s H vs Q E hr h => ?_)
    · obtain ⟨a, M, z, rfl, _⟩ := h
      rfl
    · obtain ⟨a, M, z, rfl, ⟨dx, j, e, hd, h1, h2, h3, h4⟩, b1, b2, q⟩ := h
      have nd := sc_Ring_need_trial.nd
      refine ⟨_, (pss_one (ps_if (pt_not (pt_val (rf_call (ok_is_ring_trial T) hr T.g_is_ring_trial T.k_is_ring_trial (pa_cons (pv 1) (pa_cons (pe_fld (pv 0) rfl) pa_nil))))) (pss_one ps_never) pss_nil)), ?_⟩
      exact ⟨_, rfl, _, rfl, a, _, dx, _, _, rfl, h1, T.cl_N true, T.n_N_bits true, rfl, z, M.n, rfl, b2, b1, fun H1 s1 => ⟨true, rfl, iteF (q H1 s1)⟩⟩
def spHeld (K : PySem.W.Frag) (r : Bool) : Sp := fun vs H Q _ => ∃ (a : Addr) (M : Net), vs = [.ref a] ∧ NetAt K r H a M ∧ ∀ p, H p = none → Q (.ref p) (upd H p (.dK []))
theorem sc_Network_held_states : FnScope ["self"] ["self"] (defScope s_Network_held_states) := ⟨rfl, rfl, rfl, by decide +kernel, rfl, by decide +kernel, by decide +kernel⟩
theorem ok_Network_held_states (T : Txt w K mg) (r : Bool) : FnR P w K mg base CX0 1 (mN r "held_states" K) (spHeld K r) := by
  obtain ⟨fd, F⟩ := T.f_N_held_states r
  refine mkR F sc_Network_held_states (fun _ _ _ _ _ _ us hl => match us, hl with | [_], _ => rfl) (fun vs H Q E h => ?_) (fun cdv A outer s H vs Q E hr h => ?_)
  · obtain ⟨a, M, rfl, _⟩ := h
    rfl
  · obtain ⟨a, M, rfl, ⟨dx, j, e, hd, h1, h2, h3, o, h4, h5⟩, q⟩ := h
    have nd := sc_Network_held_states.nd
    refine ⟨_, (pss_one (ps_ret (pe_callTy (call_dictT rfl) (by rfl) T.b_dict (by decide +kernel) (pa_cons (pe_fld (pv 0) rfl) pa_nil)))), ?_⟩
    exact ⟨_, rfl, a, _, dx, _, _, rfl, h1, T.cl_N r, T.n_N_held r, rfl, hd, o, [], [], rfl, h4, h5, .nil, q⟩
def spNetLen (K : PySem.W.Frag) (r : Bool) : Sp := fun vs H Q _ => ∃ (a : Addr) (M : Net), vs = [.ref a] ∧ NetAt K r H a M ∧ Q (.int M.cs.length) H
theorem sc_Network_len : FnScope ["self"] ["self"] (defScope s_Network_len) := ⟨rfl, rfl, rfl, by decide +kernel, rfl, by decide +kernel, by decide +kernel⟩
theorem ok_Network_len (T : Txt w K mg) (r : Bool) : FnR P w K mg base CX0 1 (mN r "__len__" K) (spNetLen K r) := by
  obtain ⟨fd, F⟩ := T.f_N_len r
  refine mkR F sc_Network_len (fun _ _ _ _ _ _ us hl => match us, hl with | [_], _ => rfl) (fun vs H Q E h => ?_) (fun cdv A outer s H vs Q E hr h => ?_)
  · obtain ⟨a, M, rfl, _⟩ := h
    rfl
  · obtain ⟨a, M, rfl, ⟨dx, j, e, hd, h1, ⟨cas, hca, rc⟩, h3, h4⟩, q⟩ := h
    have nd := sc_Network_len.nd
    refine ⟨_, (pss_one (ps_ret (pe_callB call_len (by rfl) T.b_len (by decide +kernel) (pa_cons (pe_fld (pv 0) rfl) pa_nil)))), ?_⟩
    exact ⟨_, rfl, a, _, dx, _, _, rfl, h1, T.cl_N r, T.n_N_joins r, rfl, _, M.cs.length, rfl, .inr ⟨_, hca, by rw [List.length_map]; exact rc.1.symm⟩, q⟩
def spNetEq (K : PySem.W.Frag) (r : Bool) : Sp := fun vs H Q _ => ∃ (a b : Addr) (M N : Net), vs = [.ref a, .ref b] ∧ NetAt K r H a M ∧ NetAt K r H b N ∧ Q (.bl (decide (M.n = N.n ∧ M.cs = N.cs ∧ M.os = N.os))) H
theorem sc_Network_eq : FnScope ["self", "other"] ["self", "other"] (defScope s_Network_eq) := ⟨rfl, rfl, rfl, by decide +kernel, rfl, by decide +kernel, by decide +kernel⟩
theorem HeldAt.sqt {H : Hp} {h : Addr} (x : HeldAt H h) : SqT K H h [] := let ⟨o, _, e⟩ := x; .inl (.inr ⟨o, e⟩)
theorem ok_Network_eq (T : Txt w K mg) (r : Bool) : FnR P w K mg base CX0 1 (mN r "__eq__" K) (spNetEq K r) := by
  obtain ⟨fd, F⟩ := T.f_N_eq r
  refine mkR F sc_Network_eq (fun _ _ _ _ _ _ us hl => match us, hl with | [_, _], _ => rfl) (fun vs H Q E h => ?_) (fun cdv A outer s H vs Q E hr h => ?_)
  · obtain ⟨a, b, M, N, rfl, _⟩ := h
    rfl
  · obtain ⟨a, b, M, N, rfl, ⟨dx, j, e, hd, h1, h2, h3, h4⟩, ⟨dy, j', e', hd', g1, g2, g3, g4⟩, q⟩ := h
    have nd := sc_Network_eq.nd
    have cl := T.cl_N r
    obtain ⟨u, c⟩ := T.v_N_KIND r
    refine ⟨_, (pss_one (ps_ret (pe_and (pe_callB call_isi (by rfl) T.b_isinstance (by decide +kernel) (pa_cons (pv 1) (pa_cons (pe_gr T.g_Network) pa_nil))) (pe_and (pe_cmpR op_eq (pe_con (pv 0) rfl) (pe_con (pv 1) rfl) (nomark _)) (pe_and (pe_cmpR op_eq (pe_fld (pv 0) rfl) (pe_fld (pv 1) rfl) (nomark _)) (pe_and (pe_cmpR (op_eqD hr.units) (pe_fld (pv 0) rfl) (pe_fld (pv 1) rfl) (nomark _)) (pe_and (pe_cmpR (op_eqD hr.units) (pe_fld (pv 0) rfl) (pe_fld (pv 1) rfl) (nomark _)) (pe_one (pe_cmpR (op_eqD hr.units) (pe_fld (pv 0) rfl) (pe_fld (pv 1) rfl) (nomark _)))))))))), ?_⟩
    refine ⟨_, rfl, _, _, _, _, true, rfl, .own _, isi_ins g1 cl (T.is_N r), T.i_N r, true, rfl, iteT ?_⟩
    refine ⟨_, rfl, a, _, dx, _, _, u, rfl, h1, cl, c, rfl, _, rfl, b, _, dy, _, _, u, rfl, g1, cl, c, rfl, rfl, _, rfl, ite_t (by simp) ?_⟩
    refine ⟨_, rfl, a, _, dx, _, _, rfl, h1, cl, T.n_N_bits r, rfl, _, rfl, b, _, dy, _, _, rfl, g1, cl, T.n_N_bits r, rfl, rfl, _, rfl, ?_⟩
    rw [dInt]
    by_cases k1 : M.n = N.n
    rotate_left
    · rw [decide_eq_false (by omega)]
      refine iteF ?_
      rw [decide_eq_false (fun z => k1 z.1)] at q
      exact q
    rw [decide_eq_true (by omega)]
    refine iteT ⟨_, rfl, a, _, dx, _, _, rfl, h1, cl, T.n_N_joins r, rfl, _, rfl, b, _, dy, _, _, rfl, g1, cl, T.n_N_joins r, rfl, _, _, dp_cells h2, dp_cells g2, shp_cells _, shp_cells _, _, rfl, ?_⟩
    rw [eq_cells]
    by_cases k2 : M.cs = N.cs
    rotate_left
    · rw [decide_eq_false k2]
      refine iteF ?_
      rw [decide_eq_false (fun z => k2 z.2.1)] at q
      exact q
    rw [decide_eq_true k2]
    refine iteT ⟨_, rfl, a, _, dx, _, _, rfl, h1, cl, T.n_N_ends r, rfl, _, rfl, b, _, dy, _, _, rfl, g1, cl, T.n_N_ends r, rfl, _, _, dp_ints h3, dp_ints g3, shp_ints _, shp_ints _, _, rfl, ?_⟩
    rw [eq_ints]
    by_cases k3 : M.os = N.os
    rotate_left
    · rw [decide_eq_false k3]
      refine iteF ?_
      rw [decide_eq_false (fun z => k3 z.2.2)] at q
      exact q
    rw [decide_eq_true k3]
    refine iteT ⟨_, rfl, a, _, dx, _, _, rfl, h1, cl, T.n_N_held r, rfl, _, rfl, b, _, dy, _, _, rfl, g1, cl, T.n_N_held r, rfl, _, _, dp_ints (ns := []) h4.sqt, dp_ints (ns := []) g4.sqt, shp_ints _, shp_ints _, ?_⟩
    rw [eq_ints]
    rw [decide_eq_true ⟨k1, k2, k3⟩] at q
    exact q
end
end Cp
/-! carries, orders; rebuilding's small defs. -/
namespace Cp
open PySem PySem.Spec PyProof.Rows L2
def cars (z : List Nat) (M : Net) : List Nat := M.os.map fun o => if (sts z M.n M.cs).getD o 80 = 71 then 1 else 0
def outOrds (M : Net) : List (List Nat) := M.os.map fun o => (ords M.n M.cs).getD o []
theorem sz7 {n : Nat} (h : n ≤ 10000) : n < sizeLine := sz9 h
section
variable {P : Program} {w : World} {K : PySem.W.Frag} {mg : Str → Option Value} {base : Heap}
def spCarries (K : PySem.W.Frag) (r : Bool) : Sp := fun vs H Q _ => ∃ (a : Addr) (M : Net) (z : List Nat), vs = [.ref a, .str (sOf z)] ∧ NetAt K r H a M ∧ NetOk r M ∧ TrialOk r M.n z ∧ ∀ H' b, Same H H' → SqT K H' b (nInts (cars z M)) → Q (.ref b) H'
theorem sc_Network_carries : FnScope ["self", "trial", "known", "node"] ["self", "trial"] (defScope s_Network_carries) := ⟨rfl, rfl, rfl, by decide +kernel, rfl, by decide +kernel, by decide +kernel⟩
theorem ok_Network_carries (T : Txt w K mg) (r : Bool) : FnR P w K mg base CX0 4 (mN r "carries" K) (spCarries K r) := by
  obtain ⟨fd, F⟩ := T.f_N_carries r
  refine mkR F sc_Network_carries (fun _ _ _ _ _ _ us hl => match us, hl with | [_, _], _ => rfl) (fun vs H Q E h => ?_) (fun cdv A outer s H vs Q E hr h => ?_)
  · obtain ⟨a, M, z, rfl, _⟩ := h
    rfl
  · obtain ⟨a, M, z, rfl, hnet, hM, hz, q⟩ := h
    have nd := sc_Network_carries.nd
    have cl := T.cl_N r
    have hlow := low_le r
    have hn24 := hM.hi
    have hmany := hM.many
    have houts := hM.outs
    obtain ⟨dx, j, e, hd, h1, h2, h3, h4⟩ := id hnet
    refine ⟨_, (pss_cons (ps_expr (rf_meth (pv 0) (T.cl_N r) (T.m_N_need_trial r) (ok_need_trial T r) hr (pa_cons (pv 1) pa_nil)))
      (pss_cons (ps_set (i := 2) nd rfl (Or.inr rfl) (rf_call (ok_node_states T) hr T.g_node_states T.k_node_states (pa_cons (pe_fld (pv 0) rfl) (pa_cons (pe_fld (pv 0) rfl) (pa_cons (pv 1) (pa_cons (rf_meth0 (pv 0) (T.cl_N r) (T.m_N_held_states r) (ok_Network_held_states T r) hr) pa_nil))))))
      (pss_one (ps_ret (pe_callTy call_tuple_of (by rfl) T.b_tuple (by decide +kernel) (pa_cons (pe_lc (own := [("node", 3)]) (g := (gName 3)) (tt := tYes) (te := (tCR spCarry (tCons (tOp (rIxL K) (tVar 2) (tVar 3)) tNil))) rfl nd (pi_tup (pe_fld (pv 0) rfl)) (blkOk_by (N := ["self", "trial", "known", "node"]) (sc := defScope s_Network_carries) (by decide +kernel)) (fun _ _ _ _ _ => (pg_name (i := 3) nd rfl (Or.inl rfl))) (fun _ _ _ _ _ => pts_nil) (fun _ _ _ _ _ => (rf_call (ok_carry_of T) hr T.g_carry_of T.k_carry_of (pa_cons (pe_ix ix_list (pv 2) (pv 3) (fun _ _ => rfl)) pa_nil)))) pa_nil)))))), ?_⟩
    refine ⟨_, rfl, a, dx, _, rfl, h1, rfl, _, rfl, a, M, z, rfl, hnet, hM.hi, hz, fun H1 s1 => ?_⟩
    refine ⟨_, rfl, a, _, dx, _, _, rfl, s1 _ _ h1, cl, T.n_N_bits r, rfl, _, rfl, a, _, dx, _, _, rfl, s1 _ _ h1, cl, T.n_N_joins r, rfl, _, rfl, _, rfl, a, dx, _, rfl, s1 _ _ h1, rfl, a, M, rfl, NetAt.mono s1 hnet, fun p hp => ?_⟩
    have s2 := s1.trans (Same.new (o := .dK []) hp)
    refine ⟨r, M.n, j, p, z, M.cs, rfl, hM.hi, hM.many, CellsT.mono s2 h2, hM.cells, hz.len, upd_same, fun H3 b s3 hb => ?_⟩
    have s3' := s2.trans s3
    refine ⟨_, rfl, a, _, dx, _, _, rfl, s3' _ _ h1, cl, T.n_N_ends r, rfl, e, rfl, ⟨_, Same.sqt s3' h3⟩, fun D hD => ?_⟩
    refine lc_map (items := M.os) hD (by have w := walk_tup (K := K) (a := e) (xs := nInts M.os); rwa [nInts_len] at w) (fun H v x => v = .int ((if (sts z M.n M.cs).getD x 80 = 71 then 1 else 0 : Nat) : Int)) (fun H H' v x e h => h) (sz7 (by omega)) (fun H4 s4 => Same.sqt (s3'.trans s4) h3) (fun i o eo H4 s4 Ky hy v H' y => ?_) (fun acc H4 s4 hd4 rel => ?_)
    · obtain ⟨rfl, hx⟩ := y
      obtain ⟨o', ho', rfl⟩ := nInts_get hx
      rw [eo] at ho'
      cases ho'
      have hbd := hM.out o (List.mem_of_getElem? eo)
      have hlen := sts_len z M.n M.cs
      have go : (sts z M.n M.cs)[o]? = some ((sts z M.n M.cs).getD o 80) := by rw [List.getD_eq_getElem?_getD, List.getElem?_eq_getElem (by omega)]; rfl
      refine ⟨rfl, _, rfl, _, rfl, b, _, o, _, rfl, rfl, isL (s4 _ _ hb), atI_nat (get_nStrs go), _, rfl, ?_⟩
      refine hy _ _ (Same.refl _) ?_
      show V.int (if (sts z M.n M.cs).getD o 80 = 71 then 1 else 0) = V.int ((if (sts z M.n M.cs).getD o 80 = 71 then 1 else 0 : Nat) : Int)
      split <;> rfl
    · refine ⟨D, acc, rfl, .inl ⟨isL hd4, fun t ht => ?_⟩⟩
      refine q _ t ((s3'.trans s4).trans (Same.new ht)) (isT ?_)
      rw [upd_same, rel_map rel]
      simp [cars, nInts]
def spNetOrds (K : PySem.W.Frag) (r : Bool) : Sp := fun vs H Q _ => ∃ (a : Addr) (M : Net), vs = [.ref a] ∧ NetAt K r H a M ∧ NetOk r M ∧ ∀ H' b as, Same H H' → SqT K H' b (as.map V.ref) → Rel2 (OrdAt K H') as (outOrds M) → Q (.ref b) H'
theorem sc_Network_orders : FnScope ["self", "known", "node"] ["self"] (defScope s_Network_orders) := ⟨rfl, rfl, rfl, by decide +kernel, rfl, by decide +kernel, by decide +kernel⟩
theorem ok_Network_orders (T : Txt w K mg) (r : Bool) : FnR P w K mg base CX0 6 (pN r "orders" K) (spNetOrds K r) := by
  obtain ⟨fd, F⟩ := T.f_N_orders r
  refine mkR F sc_Network_orders (fun _ _ _ _ _ _ us hl => match us, hl with | [_], _ => rfl) (fun vs H Q E h => ?_) (fun cdv A outer s H vs Q E hr h => ?_)
  · obtain ⟨a, M, rfl, _⟩ := h
    rfl
  · obtain ⟨a, M, rfl, hnet, hM, q⟩ := h
    have nd := sc_Network_orders.nd
    have cl := T.cl_N r
    have hlow := low_le r
    have hn24 := hM.hi
    have hmany := hM.many
    have houts := hM.outs
    obtain ⟨dx, j, e, hd, h1, h2, h3, h4⟩ := id hnet
    refine ⟨_, (pss_cons (ps_set (i := 1) nd rfl (Or.inr rfl) (rf_call (ok_node_orders T) hr T.g_node_orders T.k_node_orders (pa_cons (pe_fld (pv 0) rfl) (pa_cons (pe_fld (pv 0) rfl) pa_nil))))
      (pss_one (ps_ret (pe_callTy call_tuple_of (by rfl) T.b_tuple (by decide +kernel) (pa_cons (pe_lc (own := [("node", 2)]) (g := (gName 2)) (tt := tYes) (te := (tOp (rIxL K) (tVar 1) (tVar 2))) rfl nd (pi_tup (pe_fld (pv 0) rfl)) (blkOk_by (N := ["self", "known", "node"]) (sc := defScope s_Network_orders) (by decide +kernel)) (fun _ _ _ _ _ => (pg_name (i := 2) nd rfl (Or.inl rfl))) (fun _ _ _ _ _ => pts_nil) (fun _ _ _ _ _ => (pe_ix ix_list (pv 1) (pv 2) (fun _ _ => rfl)))) pa_nil))))), ?_⟩
    refine ⟨_, rfl, a, _, dx, _, _, rfl, h1, cl, T.n_N_bits r, rfl, _, rfl, a, _, dx, _, _, rfl, h1, cl, T.n_N_joins r, rfl, r, M.n, j, M.cs, rfl, hM.hi, hM.many, h2, hM.cells, fun H1 b as s1 hb rel1 => ?_⟩
    refine ⟨_, rfl, a, _, dx, _, _, rfl, s1 _ _ h1, cl, T.n_N_ends r, rfl, e, rfl, ⟨_, Same.sqt s1 h3⟩, fun D hD => ?_⟩
    refine lc_map (items := M.os) hD (by have w := walk_tup (K := K) (a := e) (xs := nInts M.os); rwa [nInts_len] at w) (fun H v x => ∃ a, v = .ref a ∧ OrdAt K H a ((ords M.n M.cs).getD x [])) (fun H H' v x e ⟨a, h, o⟩ => ⟨a, h, Ext.ord e o⟩) (sz7 (by omega)) (fun H4 s4 => Same.sqt (s1.trans s4) h3) (fun i o eo H4 s4 Ky hy v H' y => ?_) (fun acc H4 s4 hd4 rel => ?_)
    · obtain ⟨rfl, hx⟩ := y
      obtain ⟨o', ho', rfl⟩ := nInts_get hx
      rw [eo] at ho'
      cases ho'
      have hbd := hM.out o (List.mem_of_getElem? eo)
      have hlen := ords_len M.n M.cs
      have go : (ords M.n M.cs)[o]? = some ((ords M.n M.cs).getD o []) := by rw [List.getD_eq_getElem?_getD, List.getElem?_eq_getElem (by omega)]; rfl
      obtain ⟨ao, hao, oo⟩ := rel1.get go
      refine ⟨rfl, _, rfl, _, rfl, b, _, o, _, rfl, rfl, isL (s4 _ _ hb), atI_nat (get_refs hao), ?_⟩
      exact hy _ _ (Same.refl _) ⟨ao, rfl, OrdAt.mono s4 oo⟩
    · obtain ⟨bs, rfl, rel2⟩ := refs_of rel
      refine ⟨D, bs.map V.ref, rfl, .inl ⟨isL hd4, fun t ht => ?_⟩⟩
      refine q _ t bs ((s1.trans s4).trans (Same.new ht)) (isT upd_same) ?_
      exact (rel2.imp fun _ _ o => OrdAt.mono (Same.new ht) o).map
def spOfKind (K : PySem.W.Frag) (r : Bool) : Sp := fun vs H Q _ => ∃ (a b c : Addr) (M M' : Net), vs = [.ref a, .int M'.n, .ref b, .ref c] ∧ NetAt K r H a M ∧ CellsA K H b M'.cs ∧ (SqL K H c (nInts M'.os) ∨ SqT K H c (nInts M'.os)) ∧ NetOk r M' ∧
  ∀ x H', Same H H' → H x = none → NetAt K r H' x M' → Q (.ref x) H'
theorem sc_of_kind : FnScope ["net", "n", "cells", "ends"] ["net", "n", "cells", "ends"] (defScope s_of_kind) := ⟨rfl, rfl, rfl, by decide +kernel, rfl, by decide +kernel, by decide +kernel⟩
theorem ok_of_kind (T : Txt w K mg) (r : Bool) : FnR P w K mg base CX0 6 (gA "of_kind" K) (spOfKind K r) := by
  obtain ⟨fd, F⟩ := T.f_of_kind
  refine mkR F sc_of_kind (fun _ _ _ _ _ _ us hl => match us, hl with | [_, _, _, _], _ => rfl) (fun vs H Q E h => ?_) (fun cdv A outer s H vs Q E hr h => ?_)
  · obtain ⟨a, b, c, M, M', rfl, _⟩ := h
    rfl
  · obtain ⟨a, b, c, M, M', rfl, ⟨dx, j, e, hd, h1, h2, h3, h4⟩, hb, hc, hM, q⟩ := h
    have nd := sc_of_kind.nd
    obtain ⟨u, cv⟩ := T.v_N_KIND r
    obtain ⟨u2, cv2⟩ := T.kind
    refine ⟨_, (pss_cons (ps_if (pt_cmpR op_eq (pe_con (pv 0) rfl) (ClX.pe_cval (pe_gr T.g_Ring)) (nomark _)) (pss_one (ps_ret (rf_make T.mk_Ring (ok_Network_init T true) hr T.g_Ring (pa_cons (pv 1) (pa_cons (pv 2) (pa_cons (pv 3) pa_nil)))))) pss_nil)
      (pss_one (ps_ret (rf_make T.mk_Network (ok_Network_init T false) hr T.g_Network (pa_cons (pv 1) (pa_cons (pv 2) (pa_cons (pv 3) pa_nil))))))), ?_⟩
    refine ⟨_, rfl, a, _, dx, _, _, u, rfl, h1, T.cl_N r, cv, rfl, _, _, _, u2, rfl, T.read, cv2, rfl, _, rfl, ?_⟩
    cases r
    · have : decide (V.str (if false = true then ("ring" : Str) else ("adder" : Str)) = V.str ("ring" : Str)) = false := by decide +kernel
      rw [this]
      refine iteF ?_
      refine ⟨_, rfl, _, rfl, _, rfl, mk_net hb hc hM q⟩
    · have : decide (V.str (if true = true then ("ring" : Str) else ("adder" : Str)) = V.str ("ring" : Str)) = true := by decide +kernel
      rw [this]
      refine iteT ?_
      refine ⟨_, rfl, _, rfl, _, rfl, mk_net hb hc hM q⟩
end
end Cp
/-! rebuilding's small defs; wires. -/
namespace Cp
open PySem PySem.Spec PyProof.Rows L2
def wname : Wk → Str
  | .up => "upper"
  | .lo => "lower"
  | .out => "output"
theorem wname_inj (a b : Wk) : decide (V.str (wname a) = V.str (wname b)) = decide (a = b) := by
  cases a <;> cases b <;> decide +kernel
def WireAt (K : PySem.W.Frag) (H : Hp) (p : Addr) (w : Wk) (i : Nat) : Prop := SqT K H p [.str (wname w), .int (i : Nat)]
/-- a wire that is there -/
def wok (r : Bool) (M : Net) (w : Wk) (i : Nat) : Prop := match w with
  | .out => low r ≤ i ∧ i ≤ M.n
  | _ => i < M.cs.length
theorem rg_nat {a b : Int} {lo k : Nat} (ha : a = lo) (hb : (b - a).toNat = k) : rgV a b = nInts ((List.range k).map fun i => lo + i) := by
  subst ha
  unfold rgV
  rw [hb, nInts, List.map_map]
  refine List.map_congr_left fun i _ => ?_
  show V.int ((lo : Int) + (i : Nat)) = V.int ((lo + i : Nat) : Int)
  rw [Int.natCast_add]
theorem ixN_nat {i n : Nat} (h : i < n) : ixN n (i : Int) = some i := by
  unfold ixN
  rw [if_pos (by omega), if_pos (by omega)]
  rfl
section
variable {P : Program} {w : World} {K : PySem.W.Frag} {mg : Str → Option Value} {base : Heap}
def spCellNodes (K : PySem.W.Frag) (r : Bool) : Sp := fun vs H Q _ => ∃ (a : Addr) (M : Net), vs = [.ref a] ∧ NetAt K r H a M ∧ NetOk r M ∧ ∀ p, H p = none → Q (.ref p) (upd H p (.lst (nInts ((List.range M.cs.length).map fun i => M.n + 1 + i))))
theorem sc_cell_nodes : FnScope ["net"] ["net"] (defScope s_cell_nodes) := ⟨rfl, rfl, rfl, by decide +kernel, rfl, by decide +kernel, by decide +kernel⟩
theorem ok_cell_nodes (T : Txt w K mg) (r : Bool) : FnR P w K mg base CX0 3 (gA "cell_nodes" K) (spCellNodes K r) := by
  obtain ⟨fd, F⟩ := T.f_cell_nodes
  refine mkR F sc_cell_nodes (fun _ _ _ _ _ _ us hl => match us, hl with | [_], _ => rfl) (fun vs H Q E h => ?_) (fun cdv A outer s H vs Q E hr h => ?_)
  · obtain ⟨a, M, rfl, _⟩ := h
    rfl
  · obtain ⟨a, M, rfl, hnet, hM, q⟩ := h
    have nd := sc_cell_nodes.nd
    have hn := hM.hi
    have hm := hM.many
    obtain ⟨dx, j, e, hd, h1, _⟩ := id hnet
    refine ⟨_, (pss_one (ps_ret (pe_listRg rfl (by rfl) T.b_list (prg_2 (by rfl) T.b_range (pe_op op_add (rf_prop (pv 0) (T.cl_N r) (T.p_N_size r) (ok_Network_size T r) hr) pe_int) (pe_op op_add (pe_op op_add (rf_prop (pv 0) (T.cl_N r) (T.p_N_size r) (ok_Network_size T r) hr) pe_int) (pe_callB (call_lenOwn (T.m_N_len r) (ok_Network_len T r) hr) (by rfl) T.b_len (by decide +kernel) (pa_cons (pv 0) pa_nil))))))), ?_⟩
    refine ⟨_, rfl, a, dx, _, rfl, h1, a, M, rfl, hnet, _, _, rfl, rfl, ?_⟩
    refine ⟨_, rfl, a, dx, _, rfl, h1, a, M, rfl, hnet, _, _, rfl, rfl, _, rfl, a, dx, _, rfl, h1, a, M, rfl, hnet, M.cs.length, rfl, by omega, _, _, rfl, rfl, _, _, rfl, rfl, ⟨by omega, by omega, by omega, by omega, by omega⟩, fun p hp => ?_⟩
    rw [rg_nat (lo := M.n + 1) (k := M.cs.length) (by omega) (by omega)]
    exact q p hp
def spAllNodes (K : PySem.W.Frag) (r : Bool) : Sp := fun vs H Q _ => ∃ (a : Addr) (M : Net), vs = [.ref a] ∧ NetAt K r H a M ∧ NetOk r M ∧ ∀ p, H p = none → Q (.ref p) (upd H p (.lst (nInts ((List.range (M.n + 1 + M.cs.length - low r)).map fun i => low r + i))))
theorem sc_all_nodes : FnScope ["net"] ["net"] (defScope s_all_nodes) := ⟨rfl, rfl, rfl, by decide +kernel, rfl, by decide +kernel, by decide +kernel⟩
theorem ok_all_nodes (T : Txt w K mg) (r : Bool) : FnR P w K mg base CX0 3 (gA "all_nodes" K) (spAllNodes K r) := by
  obtain ⟨fd, F⟩ := T.f_all_nodes
  refine mkR F sc_all_nodes (fun _ _ _ _ _ _ us hl => match us, hl with | [_], _ => rfl) (fun vs H Q E h => ?_) (fun cdv A outer s H vs Q E hr h => ?_)
  · obtain ⟨a, M, rfl, _⟩ := h
    rfl
  · obtain ⟨a, M, rfl, hnet, hM, q⟩ := h
    have nd := sc_all_nodes.nd
    have hn := hM.hi
    have hm := hM.many
    have hlow := low_le r
    obtain ⟨u3, c3⟩ := T.v_low r
    obtain ⟨dx, j, e, hd, h1, _⟩ := id hnet
    refine ⟨_, (pss_one (ps_ret (pe_listRg rfl (by rfl) T.b_list (prg_2 (by rfl) T.b_range (pe_con (pv 0) rfl) (pe_op op_add (pe_op op_add (rf_prop (pv 0) (T.cl_N r) (T.p_N_size r) (ok_Network_size T r) hr) pe_int) (pe_callB (call_lenOwn (T.m_N_len r) (ok_Network_len T r) hr) (by rfl) T.b_len (by decide +kernel) (pa_cons (pv 0) pa_nil))))))), ?_⟩
    refine ⟨_, rfl, a, _, dx, _, _, u3, rfl, h1, T.cl_N r, c3, rfl, ?_⟩
    refine ⟨_, rfl, a, dx, _, rfl, h1, a, M, rfl, hnet, _, _, rfl, rfl, _, rfl, a, dx, _, rfl, h1, a, M, rfl, hnet, M.cs.length, rfl, by omega, _, _, rfl, rfl, _, _, rfl, rfl, ⟨by omega, by omega, by omega, by omega, by omega⟩, fun p hp => ?_⟩
    rw [rg_nat (lo := low r) (k := M.n + 1 + M.cs.length - low r) (by omega) (by omega)]
    exact q p hp
def spInputs (K : PySem.W.Frag) (r : Bool) : Sp := fun vs H Q _ => ∃ (a : Addr) (M : Net) (k : Nat) (c : Nat × Nat), vs = [.ref a, .int (M.n + 1 + k : Nat)] ∧ NetAt K r H a M ∧ M.cs[k]? = some c ∧ ∀ p, CellAt K H p c → Q (.ref p) H
theorem sc_inputs_of : FnScope ["net", "node"] ["net", "node"] (defScope s_inputs_of) := ⟨rfl, rfl, rfl, by decide +kernel, rfl, by decide +kernel, by decide +kernel⟩
theorem ok_inputs_of (T : Txt w K mg) (r : Bool) : FnR P w K mg base CX0 3 (gA "inputs_of" K) (spInputs K r) := by
  obtain ⟨fd, F⟩ := T.f_inputs_of
  refine mkR F sc_inputs_of (fun _ _ _ _ _ _ us hl => match us, hl with | [_, _], _ => rfl) (fun vs H Q E h => ?_) (fun cdv A outer s H vs Q E hr h => ?_)
  · obtain ⟨a, M, k, c, rfl, _⟩ := h
    rfl
  · obtain ⟨a, M, k, c, rfl, hnet, hk, q⟩ := h
    have nd := sc_inputs_of.nd
    obtain ⟨dx, j, e, hd, h1, _⟩ := id hnet
    refine ⟨_, (pss_one (ps_ret (pe_ix ix_tup (rf_prop (pv 0) (T.cl_N r) (T.p_N_cells r) (ok_Network_cells T r) hr) (pe_op op_sub (pe_op op_sub (pv 1) (rf_prop (pv 0) (T.cl_N r) (T.p_N_size r) (ok_Network_size T r) hr)) pe_int) (fun _ _ => rfl)))), ?_⟩
    refine ⟨_, rfl, a, dx, _, rfl, h1, a, M, rfl, hnet, fun j2 hj2 => ?_⟩
    obtain ⟨cas, hca, rc⟩ := hj2
    obtain ⟨p, hp, hcell⟩ := rc.get hk
    refine ⟨_, rfl, _, rfl, a, dx, _, rfl, h1, a, M, rfl, hnet, _, _, rfl, rfl, _, _, rfl, rfl, j2, _, (k : Int), _, rfl, congrArg V.int (show ((M.n + 1 + k : Nat) : Int) - (M.n : Int) - 1 = (k : Int) by omega), hca, atI_nat (get_refs hp), q p hcell⟩
def spIsWire (K : PySem.W.Frag) (r : Bool) : Sp := fun vs H Q _ => ∃ (a v : Addr) (M : Net) (wk : Wk) (i : Nat), vs = [.ref a, .ref v] ∧ NetAt K r H a M ∧ NetOk r M ∧ WireAt K H v wk i ∧ wok r M wk i ∧ ∀ H', Same H H' → Q (.bl true) H'
theorem sc_is_wire : FnScope ["net", "value"] ["net", "value"] (defScope s_is_wire) := ⟨rfl, rfl, rfl, by decide +kernel, rfl, by decide +kernel, by decide +kernel⟩
theorem ok_is_wire (T : Txt w K mg) (r : Bool) : FnR P w K mg base CX0 3 (gA "is_wire" K) (spIsWire K r) := by
  obtain ⟨fd, F⟩ := T.f_is_wire
  refine mkR F sc_is_wire (fun _ _ _ _ _ _ us hl => match us, hl with | [_, _], _ => rfl) (fun vs H Q E h => ?_) (fun cdv A outer s H vs Q E hr h => ?_)
  · obtain ⟨a, v, M, wk, i, rfl, _⟩ := h
    rfl
  · obtain ⟨a, v, M, wk, i, rfl, hnet, hM, hw, hok, q⟩ := h
    have nd := sc_is_wire.nd
    have hm := hM.many
    have cl := T.cl_N r
    obtain ⟨u3, c3⟩ := T.v_low r
    obtain ⟨dx, j, e, hd, h1, _⟩ := id hnet
    have w0 : atI [V.str (wname wk), V.int (i : Int)] 0 = some (.str (wname wk)) := rfl
    have w1 : atI [V.str (wname wk), V.int (i : Int)] 1 = some (.int (i : Int)) := rfl
    refine ⟨_, (pss_cons (ps_if (PW.pt (pw_or (pt_not (pt_val (rf_call (ok_is_row T) hr T.g_is_row T.k_is_row (pa_cons (pv 1) (pa_cons pe_int pa_nil))))) (pw_or1 (pt_not (pt_val (pe_callB call_isi (by rfl) T.b_isinstance (by decide +kernel) (pa_cons (pe_ix ix_tup (pv 1) pe_int (fun _ _ => rfl)) (pa_cons (pe_bltn (v := .ty "str") (by rfl) T.b_str (by decide +kernel) rfl) pa_nil)))))))) (pss_one (ps_ret pe_bl)) pss_nil)
      (pss_cons (ps_if (pt_cmpR op_eq (pe_ix ix_tup (pv 1) pe_int (fun _ _ => rfl)) (pe_gs T.c_OUTPUT) (nomark _)) (pss_one (ps_ret (rf_call (ok_is_between T) hr T.g_is_between T.k_is_between (pa_cons (pe_ix ix_tup (pv 1) pe_int (fun _ _ => rfl)) (pa_cons (pe_con (pv 0) rfl) (pa_cons (rf_prop (pv 0) (T.cl_N r) (T.p_N_size r) (ok_Network_size T r) hr) pa_nil)))))) pss_nil)
      (pss_one (ps_ret (pe_and (pe_cmpR op_in_seq (pe_ix ix_tup (pv 1) pe_int (fun _ _ => rfl)) (pe_tup (pa_cons (pe_gs T.c_UPPER) (pa_cons (pe_gs T.c_LOWER) pa_nil))) (by rfl)) (pe_one (rf_call (ok_is_between T) hr T.g_is_between T.k_is_between (pa_cons (pe_ix ix_tup (pv 1) pe_int (fun _ _ => rfl)) (pa_cons pe_int (pa_cons (pe_op op_sub (pe_callB (call_lenOwn (T.m_N_len r) (ok_Network_len T r) hr) (by rfl) T.b_len (by decide +kernel) (pa_cons (pv 0) pa_nil)) pe_int) pa_nil)))))))))), ?_⟩
    refine ⟨_, rfl, v, _, 2, rfl, hw, _, rfl, ?_⟩
    refine iteF ⟨_, rfl, _, _, _, _, rfl, rfl, hw, w0, _, _, _, _, true, rfl, .ty "str", .base (.str _), kit_ty (by decide +kernel), true, rfl, iteF ?_⟩
    refine ⟨_, rfl, _, _, _, _, rfl, rfl, hw, w0, rfl, _, rfl, ?_⟩
    have e0 := wname_inj wk .out
    rw [show wname .out = ("output" : Str) from rfl] at e0
    rw [e0]
    cases wk with
    | out =>
      refine iteT ?_
      refine ⟨_, rfl, _, _, _, _, rfl, rfl, hw, w1, _, rfl, a, _, dx, _, _, u3, rfl, h1, cl, c3, rfl, _, rfl, a, dx, _, rfl, h1, a, M, rfl, hnet, i, _, _, rfl, ?_⟩
      have hok : low r ≤ i ∧ i ≤ M.n := hok
      rw [decide_eq_true ⟨by omega, by omega⟩]
      exact q _ (Same.refl _)
    | up =>
      refine iteF ?_
      have hok : i < M.cs.length := hok
      refine ⟨_, rfl, _, _, _, _, rfl, rfl, hw, w0, by show 2 ≤ sizeLine; decide, fun p hp => ⟨p, _, rfl, .inr (isT upd_same), rfl, rfl, _, rfl, ?_⟩⟩
      have s1 : Same H (upd H p (.tup [.str "upper", .str "lower"])) := Same.new hp
      refine ite_t (by decide +kernel) ?_
      refine ⟨_, rfl, _, _, _, _, rfl, rfl, Same.sqt s1 hw, w1, _, rfl, a, dx, _, rfl, s1 _ _ h1, a, M, rfl, NetAt.mono s1 hnet, M.cs.length, rfl, by omega, _, _, rfl, rfl, i, _, _, rfl, ?_⟩
      rw [decide_eq_true ⟨by omega, by omega⟩]
      exact q _ s1
    | lo =>
      refine iteF ?_
      have hok : i < M.cs.length := hok
      refine ⟨_, rfl, _, _, _, _, rfl, rfl, hw, w0, by show 2 ≤ sizeLine; decide, fun p hp => ⟨p, _, rfl, .inr (isT upd_same), rfl, rfl, _, rfl, ?_⟩⟩
      have s1 : Same H (upd H p (.tup [.str "upper", .str "lower"])) := Same.new hp
      refine ite_t (by decide +kernel) ?_
      refine ⟨_, rfl, _, _, _, _, rfl, rfl, Same.sqt s1 hw, w1, _, rfl, a, dx, _, rfl, s1 _ _ h1, a, M, rfl, NetAt.mono s1 hnet, M.cs.length, rfl, by omega, _, _, rfl, rfl, i, _, _, rfl, ?_⟩
      rw [decide_eq_true ⟨by omega, by omega⟩]
      exact q _ s1
def spNeedWire (K : PySem.W.Frag) (r : Bool) : Sp := fun vs H Q _ => ∃ (a v : Addr) (M : Net) (wk : Wk) (i : Nat), vs = [.ref a, .ref v] ∧ NetAt K r H a M ∧ NetOk r M ∧ WireAt K H v wk i ∧ wok r M wk i ∧ ∀ H', Same H H' → Q .non H'
theorem sc_need_wire : FnScope ["net", "wire"] ["net", "wire"] (defScope s_need_wire) := ⟨rfl, rfl, rfl, by decide +kernel, rfl, by decide +kernel, by decide +kernel⟩
theorem ok_need_wire (T : Txt w K mg) (r : Bool) : FnR P w K mg base CX0 4 (gA "need_wire" K) (spNeedWire K r) := by
  obtain ⟨fd, F⟩ := T.f_need_wire
  refine mkR F sc_need_wire (fun _ _ _ _ _ _ us hl => match us, hl with | [_, _], _ => rfl) (fun vs H Q E h => ?_) (fun cdv A outer s H vs Q E hr h => ?_)
  · obtain ⟨a, v, M, wk, i, rfl, _⟩ := h
    rfl
  · obtain ⟨a, v, M, wk, i, rfl, hnet, hM, hw, hok, q⟩ := h
    have nd := sc_need_wire.nd
    refine ⟨_, (pss_one (ps_if (pt_not (pt_val (rf_call (ok_is_wire T r) hr T.g_is_wire T.k_is_wire (pa_cons (pv 0) (pa_cons (pv 1) pa_nil))))) (pss_one ps_never) pss_nil)), ?_⟩
    exact ⟨_, rfl, _, rfl, a, v, M, wk, i, rfl, hnet, hM, hw, hok, fun H1 s1 => ⟨true, rfl, iteF (q H1 s1)⟩⟩
def spHigh (K : PySem.W.Frag) (r : Bool) : Sp := fun vs H Q _ => ∃ (a v : Addr) (M : Net) (wk : Wk) (i : Nat), vs = [.ref a, .ref v] ∧ NetAt K r H a M ∧ NetOk r M ∧ WireAt K H v wk i ∧ Q (.int (M.n + (if wk = .out then M.cs.length else i) : Nat)) H
theorem sc_highest_source : FnScope ["net", "wire", "word", "index"] ["net", "wire"] (defScope s_highest_source) := ⟨rfl, rfl, rfl, by decide +kernel, rfl, by decide +kernel, by decide +kernel⟩
theorem ok_highest_source (T : Txt w K mg) (r : Bool) : FnR P w K mg base CX0 3 (gA "highest_source" K) (spHigh K r) := by
  obtain ⟨fd, F⟩ := T.f_highest_source
  refine mkR F sc_highest_source (fun _ _ _ _ _ _ us hl => match us, hl with | [_, _], _ => rfl) (fun vs H Q E h => ?_) (fun cdv A outer s H vs Q E hr h => ?_)
  · obtain ⟨a, v, M, wk, i, rfl, _⟩ := h
    rfl
  · obtain ⟨a, v, M, wk, i, rfl, hnet, hM, hw, q⟩ := h
    have nd := sc_highest_source.nd
    have hm := hM.many
    obtain ⟨dx, j, e, hd, h1, _⟩ := id hnet
    refine ⟨_, (pss_cons (ps_asg (pv 1) (pg_tup rfl (pgs_cons (pg_name (i := 2) nd rfl (Or.inl rfl)) (pgs_cons (pg_name (i := 3) nd rfl (Or.inl rfl)) pgs_nil))))
      (pss_one (ps_ret (pe_op op_add (rf_prop (pv 0) (T.cl_N r) (T.p_N_size r) (ok_Network_size T r) hr) (pe_ifExp (pt_cmpR op_eq (pv 2) (pe_gs T.c_OUTPUT) (nomark _)) (pe_callB (call_lenOwn (T.m_N_len r) (ok_Network_len T r) hr) (by rfl) T.b_len (by decide +kernel) (pa_cons (pv 0) pa_nil)) (pv 3)))))), ?_⟩
    refine ⟨_, rfl, v, _, rfl, hw, rfl, _, _, rfl, _, _, rfl, rfl, ?_⟩
    refine ⟨_, rfl, a, dx, _, rfl, h1, a, M, rfl, hnet, _, rfl, rfl, _, rfl, ?_⟩
    have e0 := wname_inj wk .out
    rw [show wname .out = ("output" : Str) from rfl] at e0
    rw [e0]
    by_cases h : wk = .out
    · rw [decide_eq_true h]
      rw [if_pos h] at q
      refine iteT ⟨_, rfl, a, dx, _, rfl, h1, a, M, rfl, hnet, M.cs.length, rfl, by omega, _, _, rfl, rfl, ?_⟩
      rw [Int.natCast_add] at q
      exact q
    · rw [decide_eq_false h]
      rw [if_neg h] at q
      refine iteF ⟨_, rfl, _, _, rfl, rfl, ?_⟩
      rw [Int.natCast_add] at q
      exact q
end
end Cp
/-! rewired, with_cell, without_cell. -/
namespace Cp
open PySem PySem.Spec PyProof.Rows L2
theorem nInts_set (ns : List Nat) (i v : Nat) : (nInts ns).set i (.int (v : Int)) = nInts (ns.set i v) := by simp [nInts, List.map_set]
theorem Rel2.set {α β : Type} {R : α → β → Prop} {l : List α} {m : List β} (h : Rel2 R l m) {i : Nat} {a : α} {b : β} (r : R a b) : Rel2 R (l.set i a) (m.set i b) := by
  refine ⟨by simp [h.1], fun j x y e1 e2 => ?_⟩
  by_cases hj : i = j
  · subst hj
    have hl : i < l.length := by have := (List.getElem?_eq_some_iff.mp e1).1; simpa using this
    have hm : i < m.length := by have := (List.getElem?_eq_some_iff.mp e2).1; simpa using this
    rw [List.getElem?_set_self hl] at e1
    rw [List.getElem?_set_self hm] at e2
    cases e1; cases e2
    exact r
  · rw [List.getElem?_set_ne hj] at e1 e2
    exact h.2 j x y e1 e2
section
variable {P : Program} {w : World} {K : PySem.W.Frag} {mg : Str → Option Value} {base : Heap}
def spRewired (K : PySem.W.Frag) (r : Bool) : Sp := fun vs H Q _ => ∃ (a v : Addr) (M M' : Net) (wk : Wk) (i node : Nat), vs = [.ref a, .ref v, .int node] ∧ NetAt K r H a M ∧ NetOk r M ∧ WireAt K H v wk i ∧ done r M (.rewire wk i node) = some M' ∧ ∀ x H', Same H H' → H x = none → NetAt K r H' x M' → Q (.ref x) H'
theorem sc_rewired : FnScope ["net", "wire", "node", "word", "index", "cells", "ends"] ["net", "wire", "node"] (defScope s_rewired) := ⟨rfl, rfl, rfl, by decide +kernel, rfl, by decide +kernel, by decide +kernel⟩
theorem ok_rewired (T : Txt w K mg) (r : Bool) : FnR P w K mg base CX0 7 (gA "rewired" K) (spRewired K r) := by
  obtain ⟨fd, F⟩ := T.f_rewired
  refine mkR F sc_rewired (fun _ _ _ _ _ _ us hl => match us, hl with | [_, _, _], _ => rfl) (fun vs H Q E h => ?_) (fun cdv A outer s H vs Q E hr h => ?_)
  · obtain ⟨a, v, M, M', wk, i, node, rfl, _⟩ := h
    rfl
  · obtain ⟨a, v, M, M', wk, i, node, rfl, hnet, hM, hw, hdone, q⟩ := h
    have nd := sc_rewired.nd
    obtain ⟨hM', hn'⟩ := done_ok hM hdone
    have cl := T.cl_N r
    obtain ⟨u3, c3⟩ := T.v_low r
    obtain ⟨dx, j, e, hd, h1, _⟩ := id hnet
    have hlow := low_le r
    have hn := hM.hi
    have hm := hM.many
    have hos := hM.outs
    have hok : wok r M wk i ∧ low r ≤ node ∧ node ≤ M.n + (if wk = .out then M.cs.length else i) := by
      cases wk <;> simp only [done] at hdone <;> split at hdone <;> first | cases hdone | skip
      all_goals rename_i hc
      · exact ⟨hc.1, hc.2.1, hc.2.2⟩
      · exact ⟨hc.1, hc.2.1, hc.2.2⟩
      · exact ⟨⟨hc.1, hc.2.1⟩, hc.2.2.1, hc.2.2.2⟩
    refine ⟨_, (pss_cons (ps_expr (rf_call (ok_need_wire T r) hr T.g_need_wire T.k_need_wire (pa_cons (pv 0) (pa_cons (pv 1) pa_nil))))
      (pss_cons (ps_if (pt_not (pt_val (rf_call (ok_is_between T) hr T.g_is_between T.k_is_between (pa_cons (pv 2) (pa_cons (pe_con (pv 0) rfl) (pa_cons (rf_call (ok_highest_source T r) hr T.g_highest_source T.k_highest_source (pa_cons (pv 0) (pa_cons (pv 1) pa_nil))) pa_nil)))))) (pss_one ps_never) pss_nil)
      (pss_cons (ps_asg (pv 1) (pg_tup rfl (pgs_cons (pg_name (i := 3) nd rfl (Or.inl rfl)) (pgs_cons (pg_name (i := 4) nd rfl (Or.inl rfl)) pgs_nil))))
      (pss_cons (ps_par (i := 5) (j := 6) rfl nd rfl rfl (by decide) rfl rfl (pa_cons (pe_callTy call_list_of (by rfl) T.b_list (by decide +kernel) (pa_cons (rf_prop (pv 0) (T.cl_N r) (T.p_N_cells r) (ok_Network_cells T r) hr) pa_nil)) (pa_cons (pe_callTy call_list_of (by rfl) T.b_list (by decide +kernel) (pa_cons (rf_prop (pv 0) (T.cl_N r) (T.p_N_outputs r) (ok_Network_outputs T r) hr) pa_nil)) pa_nil)) (by rfl))
      (pss_cons (ps_if (pt_cmpR op_eq (pv 3) (pe_gs T.c_OUTPUT) (nomark _)) (pss_one (ps_asg (pv 2) (pg_sub (pv 6) (pe_op op_sub (pv 4) (pe_con (pv 0) rfl)) set_list))) (pss_one (ps_if (pt_cmpR op_eq (pv 3) (pe_gs T.c_UPPER) (nomark _)) (pss_one (ps_asg (pe_tup (pa_cons (pv 2) (pa_cons (pe_ix ix_tup (pe_ix ix_list (pv 5) (pv 4) (fun _ _ => rfl)) pe_int (fun _ _ => rfl)) pa_nil))) (pg_sub (pv 5) (pv 4) set_list))) (pss_one (ps_asg (pe_tup (pa_cons (pe_ix ix_tup (pe_ix ix_list (pv 5) (pv 4) (fun _ _ => rfl)) pe_int (fun _ _ => rfl)) (pa_cons (pv 2) pa_nil))) (pg_sub (pv 5) (pv 4) set_list))))))
      (pss_one (ps_ret (rf_call (ok_of_kind T r) hr T.g_of_kind T.k_of_kind (pa_cons (pv 0) (pa_cons (rf_prop (pv 0) (T.cl_N r) (T.p_N_size r) (ok_Network_size T r) hr) (pa_cons (pv 5) (pa_cons (pv 6) pa_nil)))))))))))), ?_⟩
    refine ⟨_, rfl, _, rfl, a, v, M, wk, i, rfl, hnet, hM, hw, hok.1, fun H1 s1 => ?_⟩
    have hnet1 := NetAt.mono s1 hnet
    have hw1 : WireAt K H1 v wk i := Same.sqt s1 hw
    refine ⟨_, rfl, _, rfl, a, _, dx, _, _, u3, rfl, s1 _ _ h1, cl, c3, rfl, _, rfl, _, rfl, a, v, M, wk, i, rfl, hnet1, hM, hw1, node, _, _, rfl, ?_⟩
    rw [decide_eq_true ⟨by omega, by omega⟩]
    refine ⟨true, rfl, iteF ?_⟩
    refine ⟨_, rfl, v, _, rfl, hw1, rfl, _, _, rfl, _, _, rfl, rfl, ?_⟩
    refine ⟨_, rfl, a, dx, _, rfl, s1 _ _ h1, a, M, rfl, hnet1, fun j2 hj2 => ?_⟩
    obtain ⟨cas, hca, rc⟩ := hj2
    refine ⟨j2, _, rfl, .inr hca, fun c hc => ?_⟩
    have s2 := s1.trans (Same.new (o := .lst (cas.map V.ref)) hc)
    have hc2 : upd H1 c (.lst (cas.map V.ref)) c = some (.lst (cas.map V.ref)) := upd_same
    have rc2 := rc.imp fun _ _ z => CellAt.mono (Same.new (o := .lst (cas.map V.ref)) hc) z
    generalize upd H1 c (.lst (cas.map V.ref)) = H2 at s2 hc2 rc2 ⊢
    have hHc : H c = none := by
      cases z : H c with
      | none => rfl
      | some o => have := s1 _ _ z; rw [hc] at this; cases this
    have hnet2 := NetAt.mono s2 hnet
    refine ⟨_, rfl, a, dx, _, rfl, s2 _ _ h1, a, M, rfl, hnet2, fun e2 he2 => ⟨e2, _, rfl, .inr he2, fun d hd2 => ?_⟩⟩
    have s3 := s2.trans (Same.new (o := .lst (nInts M.os)) hd2)
    have hc3 : upd H2 d (.lst (nInts M.os)) c = some (.lst (cas.map V.ref)) := Same.new hd2 _ _ hc2
    have rc3 := rc2.imp fun _ _ z => CellAt.mono (Same.new (o := .lst (nInts M.os)) hd2) z
    have hd3 : upd H2 d (.lst (nInts M.os)) d = some (.lst (nInts M.os)) := upd_same
    have hcd : c ≠ d := ne_of_none hc2 hd2
    generalize upd H2 d (.lst (nInts M.os)) = H3 at s3 hc3 rc3 hd3 ⊢
    have hHd : H d = none := by
      cases z : H d with
      | none => rfl
      | some o => have := s2 _ _ z; rw [hd2] at this; cases this
    have hnet3 := NetAt.mono s3 hnet
    refine ⟨_, _, rfl, ?_⟩
    -- what stands behind the branches
    have fin : ∀ (H4 : Hp) (as4 : List Addr), Same H H4 → H4 c = some (.lst (as4.map V.ref)) → Rel2 (CellAt K H4) as4 M'.cs → H4 d = some (.lst (nInts M'.os)) → ∀ D : Ends, D.rt = Q →
        tRet (tCR (spOfKind K r) (tCons (tVar 0) (tCons (tPR (gN r K) (spSize K r) (tVar 0)) (tCons (tVar 5) (tCons (tVar 6) tNil))))) D [some (.ref a), some (.ref v), some (.int node), some (.str (wname wk)), some (.int (i : Nat)), some (.ref c), some (.ref d)] H4 := by
      intro H4 as4 s4 hc4 rc4 hd4 D eD
      have hnet4 := NetAt.mono s4 hnet
      refine ⟨_, rfl, _, rfl, a, dx, _, rfl, s4 _ _ h1, a, M, rfl, hnet4, _, rfl, _, rfl, a, c, d, M, M', by rw [hn'], hnet4, ⟨as4, .inl (isL hc4), rc4⟩, .inl (isL hd4), hM', fun x H' s' n o => ?_⟩
      show D.rt _ _
      rw [eD]
      refine q x H' (s4.trans s') ?_ o
      cases z : H x with
      | none => rfl
      | some o => have := s4 _ _ z; rw [n] at this; cases this
    refine ⟨_, rfl, rfl, _, rfl, ?_⟩
    have e0 := wname_inj wk .out
    rw [show wname .out = ("output" : Str) from rfl] at e0
    rw [e0]
    cases wk with
    | out =>
      refine iteT ?_
      simp only [done] at hdone
      split at hdone
      · rename_i hc
        cases hdone
        refine ⟨_, rfl, _, rfl, _, rfl, _, rfl, a, _, dx, _, _, u3, rfl, s3 _ _ h1, cl, c3, rfl, _, _, rfl, rfl, d, _, (i : Int) - (low r : Int), i - low r, rfl, rfl, hd3, ?_, ?_⟩
        · rw [nInts_len, show (i : Int) - (low r : Int) = ((i - low r : Nat) : Int) by omega]
          exact ixN_nat (by omega)
        · refine fin _ cas (Same.mut s3 hHd) (by rw [upd_ne hcd]; exact hc3) (rc3.imp fun _ _ z => Ext.cell (Ext.lst hd3) z) ?_ _ rfl
          rw [upd_same, nInts_set]
      · cases hdone
    | up =>
      refine iteF ?_
      have e1 := wname_inj .up .up
      refine ⟨_, rfl, rfl, true, by rw [show ("upper" : Str) = wname .up from rfl]; exact congrArg V.bl e1, iteT ?_⟩
      simp only [done] at hdone
      split at hdone
      · rename_i hc
        cases hdone
        have hi := hc.1
        have ec : M.cs[i]? = some (M.cs.getD i (0, 0)) := by rw [List.getD_eq_getElem?_getD, List.getElem?_eq_getElem hi]; rfl
        obtain ⟨pa, hpa, hcell⟩ := rc3.get ec
        refine ⟨_, rfl, _, rfl, _, rfl, c, _, (i : Int), _, rfl, rfl, isL hc3, atI_nat (get_refs hpa), pa, _, 1, _, rfl, rfl, hcell, rfl, by show 2 ≤ sizeLine; decide, fun t ht => ?_⟩
        have s4 := s3.trans (Same.new (o := .tup [.int (node : Int), .int ((M.cs.getD i (0, 0)).2 : Int)]) ht)
        have hc4 := Same.new (o := .tup [.int (node : Int), .int ((M.cs.getD i (0, 0)).2 : Int)]) ht _ _ hc3
        have hd4 := Same.new (o := .tup [.int (node : Int), .int ((M.cs.getD i (0, 0)).2 : Int)]) ht _ _ hd3
        refine ⟨_, rfl, _, rfl, c, _, (i : Int), i, rfl, rfl, hc4, ?_, ?_⟩
        · rw [List.length_map, rc3.1]; exact ixN_nat hi
        · refine fin _ (cas.set i t) (Same.mut s4 hHc) (by rw [upd_same, List.map_set]) ?_ (by rw [upd_ne (Ne.symm hcd)]; exact hd4) _ rfl
          refine Rel2.set (rc3.imp fun _ _ z => Ext.cell ((Ext.new ht).trans (Ext.lst hc4)) z) ?_
          exact Ext.cell (Ext.lst hc4) (isT upd_same)
      · cases hdone
    | lo =>
      refine iteF ?_
      have e1 := wname_inj .lo .up
      refine ⟨_, rfl, rfl, false, by rw [show ("upper" : Str) = wname .up from rfl]; exact congrArg V.bl e1, iteF ?_⟩
      simp only [done] at hdone
      split at hdone
      · rename_i hc
        cases hdone
        have hi := hc.1
        have ec : M.cs[i]? = some (M.cs.getD i (0, 0)) := by rw [List.getD_eq_getElem?_getD, List.getElem?_eq_getElem hi]; rfl
        obtain ⟨pa, hpa, hcell⟩ := rc3.get ec
        refine ⟨_, rfl, _, rfl, c, _, (i : Int), _, rfl, rfl, isL hc3, atI_nat (get_refs hpa), pa, _, 0, _, rfl, rfl, hcell, rfl, _, rfl, by show 2 ≤ sizeLine; decide, fun t ht => ?_⟩
        have s4 := s3.trans (Same.new (o := .tup [.int ((M.cs.getD i (0, 0)).1 : Int), .int (node : Int)]) ht)
        have hc4 := Same.new (o := .tup [.int ((M.cs.getD i (0, 0)).1 : Int), .int (node : Int)]) ht _ _ hc3
        have hd4 := Same.new (o := .tup [.int ((M.cs.getD i (0, 0)).1 : Int), .int (node : Int)]) ht _ _ hd3
        refine ⟨_, rfl, _, rfl, c, _, (i : Int), i, rfl, rfl, hc4, ?_, ?_⟩
        · rw [List.length_map, rc3.1]; exact ixN_nat hi
        · refine fin _ (cas.set i t) (Same.mut s4 hHc) (by rw [upd_same, List.map_set]) ?_ (by rw [upd_ne (Ne.symm hcd)]; exact hd4) _ rfl
          refine Rel2.set (rc3.imp fun _ _ z => Ext.cell ((Ext.new ht).trans (Ext.lst hc4)) z) ?_
          exact Ext.cell (Ext.lst hc4) (isT upd_same)
      · cases hdone
end
end Cp
/-! with_cell, without_cell. -/
namespace Cp
open PySem PySem.Spec PyProof.Rows L2
theorem Rel2.take {α β : Type} {R : α → β → Prop} {l : List α} {m : List β} (h : Rel2 R l m) (n : Nat) : Rel2 R (l.take n) (m.take n) :=
  ⟨by simp [h.1], fun i a b e1 e2 => by
    rw [List.getElem?_take] at e1 e2
    split at e1
    · rename_i hh; rw [if_pos hh] at e2; exact h.2 i a b e1 e2
    · cases e1⟩
theorem Rel2.drop {α β : Type} {R : α → β → Prop} {l : List α} {m : List β} (h : Rel2 R l m) (n : Nat) : Rel2 R (l.drop n) (m.drop n) :=
  ⟨by simp [h.1], fun i a b e1 e2 => by
    rw [List.getElem?_drop] at e1 e2
    exact h.2 _ a b e1 e2⟩
theorem Rel2.append {α β : Type} {R : α → β → Prop} {l l' : List α} {m m' : List β} (h : Rel2 R l m) (h' : Rel2 R l' m') : Rel2 R (l ++ l') (m ++ m') :=
  ⟨by simp [h.1, h'.1], fun i a b e1 e2 => by
    by_cases hi : i < l.length
    · rw [List.getElem?_append_left hi] at e1
      rw [List.getElem?_append_left (by rw [← h.1]; exact hi)] at e2
      exact h.2 i a b e1 e2
    · rw [List.getElem?_append_right (by omega)] at e1
      rw [List.getElem?_append_right (by rw [← h.1]; omega), ← h.1] at e2
      exact h'.2 _ a b e1 e2⟩
theorem cut_take {xs : List V} {i : Nat} (h : i ≤ xs.length) : cutV xs none (some (i : Int)) = xs.take i := by
  unfold cutV
  rw [HT.sIx_none, HT.sIx_nat, Nat.min_eq_left h, List.drop_zero, Nat.sub_zero]
theorem cut_drop {xs : List V} {i : Nat} (h : i ≤ xs.length) : cutV xs (some (i : Int)) none = xs.drop i := by
  unfold cutV
  rw [HT.sIx_none, HT.sIx_nat, Nat.min_eq_left h, List.take_of_length_le (by simp)]
theorem Same.none {H H' : Hp} {p : Addr} (s : Same H H') (h : H' p = .none) : H p = .none := s.free h
section
variable {P : Program} {w : World} {K : PySem.W.Frag} {mg : Str → Option Value} {base : Heap}
def spWith (K : PySem.W.Frag) (r : Bool) : Sp := fun vs H Q _ => ∃ (a : Addr) (M M' : Net) (u l : Nat), vs = [.ref a, .int u, .int l] ∧ NetAt K r H a M ∧ NetOk r M ∧ done r M (.add u l) = some M' ∧ ∀ x H', Same H H' → H x = none → NetAt K r H' x M' → Q (.ref x) H'
theorem sc_with_cell : FnScope ["net", "upper", "lower"] ["net", "upper", "lower"] (defScope s_with_cell) := ⟨rfl, rfl, rfl, by decide +kernel, rfl, by decide +kernel, by decide +kernel⟩
theorem ok_with_cell (T : Txt w K mg) (r : Bool) : FnR P w K mg base CX0 7 (gA "with_cell" K) (spWith K r) := by
  obtain ⟨fd, F⟩ := T.f_with_cell
  refine mkR F sc_with_cell (fun _ _ _ _ _ _ us hl => match us, hl with | [_, _, _], _ => rfl) (fun vs H Q E h => ?_) (fun cdv A outer s H vs Q E hr h => ?_)
  · obtain ⟨a, M, M', u, l, rfl, _⟩ := h
    rfl
  · obtain ⟨a, M, M', u, l, rfl, hnet, hM, hdone, q⟩ := h
    have nd := sc_with_cell.nd
    obtain ⟨hM', hn'⟩ := done_ok hM hdone
    obtain ⟨dx, j, e, hd, h1, _⟩ := id hnet
    have hm := hM.many
    simp only [done] at hdone
    split at hdone
    · rename_i hc
      obtain ⟨⟨a1, a2⟩, ⟨a3, a4⟩, a5⟩ := hc
      cases hdone
      refine ⟨_, (pss_cons (ps_expr (rf_meth (pv 0) (T.cl_N r) (T.m_N_need_node r) (ok_Network_need_node T r) hr (pa_cons (pv 1) pa_nil)))
      (pss_cons (ps_expr (rf_meth (pv 0) (T.cl_N r) (T.m_N_need_node r) (ok_Network_need_node T r) hr (pa_cons (pv 2) pa_nil)))
      (pss_cons (ps_if (pt_cmpR op_eq (pe_callB (call_lenOwn (T.m_N_len r) (ok_Network_len T r) hr) (by rfl) T.b_len (by decide +kernel) (pa_cons (pv 0) pa_nil)) (pe_gi T.c_MOST_CELLS) (nomark _)) (pss_one ps_never) pss_nil)
      (pss_one (ps_ret (rf_call (ok_of_kind T r) hr T.g_of_kind T.k_of_kind (pa_cons (pv 0) (pa_cons (rf_prop (pv 0) (T.cl_N r) (T.p_N_size r) (ok_Network_size T r) hr) (pa_cons (pe_tup (pa_star0 (rf_prop (pv 0) (T.cl_N r) (T.p_N_cells r) (ok_Network_cells T r) hr) (pa_cons (pe_tup (pa_cons (pv 1) (pa_cons (pv 2) pa_nil))) pa_nil))) (pa_cons (rf_prop (pv 0) (T.cl_N r) (T.p_N_outputs r) (ok_Network_outputs T r) hr) pa_nil)))))))))), ?_⟩
      refine ⟨_, rfl, a, dx, _, rfl, h1, rfl, _, rfl, a, M, u, rfl, hnet, a1, a2, ?_⟩
      refine ⟨_, rfl, a, dx, _, rfl, h1, rfl, _, rfl, a, M, l, rfl, hnet, a3, a4, ?_⟩
      refine ⟨_, rfl, a, dx, _, rfl, h1, a, M, rfl, hnet, M.cs.length, rfl, by omega, rfl, _, rfl, ?_⟩
      rw [dInt, decide_eq_false (by omega)]
      refine iteF ?_
      refine ⟨_, rfl, _, rfl, a, dx, _, rfl, h1, a, M, rfl, hnet, _, rfl, a, dx, _, rfl, h1, a, M, rfl, hnet, fun j2 hj2 => ?_⟩
      obtain ⟨cas, hca, rc⟩ := hj2
      have hlen : cas.length = M.cs.length := rc.1
      refine ⟨j2, _, rfl, .inl hca, _, rfl, _, rfl, by show 2 ≤ sizeLine; decide, fun t ht => ⟨by simp; exact sz10 (by omega), fun p hp => ?_⟩⟩
      have s1 : Same H (upd H t (.tup [.int (u : Int), .int (l : Int)])) := Same.new ht
      have ht1 : upd H t (.tup [.int (u : Int), .int (l : Int)]) t = some (.tup [.int (u : Int), .int (l : Int)]) := upd_same
      generalize upd H t (.tup [.int (u : Int), .int (l : Int)]) = H1 at s1 ht1 hp ⊢
      have s2' : Same H1 (upd H1 p (.tup (cas.map V.ref ++ [.ref t]))) := Same.new hp
      have hp2 : upd H1 p (.tup (cas.map V.ref ++ [.ref t])) p = some (.tup (cas.map V.ref ++ [.ref t])) := upd_same
      generalize upd H1 p (.tup (cas.map V.ref ++ [.ref t])) = H2 at s2' hp2 ⊢
      have s2 := s1.trans s2'
      have hnet2 := NetAt.mono s2 hnet
      refine ⟨_, rfl, a, dx, _, rfl, s2 _ _ h1, a, M, rfl, hnet2, fun e2 he2 => ?_⟩
      refine ⟨a, p, e2, M, ⟨M.n, M.cs ++ [(u, l)], M.os⟩, rfl, hnet2, ⟨cas ++ [t], .inr (isT (by rw [List.map_append]; exact hp2)), ?_⟩, .inr he2, hM', fun x H' s' n o => q x H' (s2.trans s') (s2.free n) o⟩
      exact (rc.imp fun _ _ z => CellAt.mono s2 z).snoc (show CellAt K H2 t (u, l) from isT (s2' _ _ ht1))
    · cases hdone
def spWithout (K : PySem.W.Frag) (r : Bool) : Sp := fun vs H Q _ => ∃ (a : Addr) (M M' : Net) (k : Int), vs = [.ref a, .int k] ∧ NetAt K r H a M ∧ NetOk r M ∧ done r M (.drop k) = some M' ∧ ∀ x H', Same H H' → H x = none → NetAt K r H' x M' → Q (.ref x) H'
theorem sc_without_cell : FnScope ["net", "index", "gone", "cells", "outputs", "upper", "lower", "node", "cell"] ["net", "index"] (defScope s_without_cell) := ⟨rfl, rfl, rfl, by decide +kernel, rfl, by decide +kernel, by decide +kernel⟩
theorem ok_without_cell (T : Txt w K mg) (r : Bool) : FnR P w K mg base CX0 7 (gA "without_cell" K) (spWithout K r) := by
  obtain ⟨fd, F⟩ := T.f_without_cell
  refine mkR F sc_without_cell (fun _ _ _ _ _ _ us hl => match us, hl with | [_, _], _ => rfl) (fun vs H Q E h => ?_) (fun cdv A outer s H vs Q E hr h => ?_)
  · obtain ⟨a, M, M', k, rfl, _⟩ := h
    rfl
  · obtain ⟨a, M, M', k, rfl, hnet, hM, hdone, q⟩ := h
    have nd := sc_without_cell.nd
    obtain ⟨hM', hn'⟩ := done_ok hM hdone
    obtain ⟨dx, j, e, hd, h1, _⟩ := id hnet
    have hm := hM.many
    have hos := hM.outs
    have hn := hM.hi
    simp only [done] at hdone
    split at hdone
    · rename_i hc
      obtain ⟨a1, a2, a3, a4⟩ := hc
      cases hdone
      obtain ⟨k, rfl⟩ : ∃ m : Nat, k = (m : Int) := ⟨k.toNat, by omega⟩
      rw [Int.toNat_natCast] at *
      refine ⟨_, (pss_cons (ps_if (pt_not (pt_val (rf_call (ok_is_between T) hr T.g_is_between T.k_is_between (pa_cons (pv 1) (pa_cons pe_int (pa_cons (pe_op op_sub (pe_callB (call_lenOwn (T.m_N_len r) (ok_Network_len T r) hr) (by rfl) T.b_len (by decide +kernel) (pa_cons (pv 0) pa_nil)) pe_int) pa_nil)))))) (pss_one ps_never) pss_nil)
      (pss_cons (ps_set (i := 2) nd rfl (Or.inr rfl) (pe_op op_add (pe_op op_add (rf_prop (pv 0) (T.cl_N r) (T.p_N_size r) (ok_Network_size T r) hr) pe_int) (pv 1)))
      (pss_cons (ps_if (PW.pt (pw_or (pt_cmpR op_in_seq (pv 2) (rf_prop (pv 0) (T.cl_N r) (T.p_N_outputs r) (ok_Network_outputs T r) hr) (by rfl)) (pw_or1 (pt_val (pe_callB (cr_any rfl) (by rfl) T.b_any (by decide +kernel) (pa_cons (pe_lc (own := [("cell", 8)]) (g := (gName 8)) (tt := tYes) (te := (tOp (rIn K false) (tVar 2) (tVar 8))) rfl nd (pi_tup (rf_prop (pv 0) (T.cl_N r) (T.p_N_cells r) (ok_Network_cells T r) hr)) (blkOk_by (N := ["net", "index", "gone", "cells", "outputs", "upper", "lower", "node", "cell"]) (sc := defScope s_without_cell) (by decide +kernel)) (fun _ _ _ _ _ => (pg_name (i := 8) nd rfl (Or.inl rfl))) (fun _ _ _ _ _ => pts_nil) (fun _ _ _ _ _ => (pe_cmpR op_in_seq (pv 2) (pv 8) (by rfl)))) pa_nil)))))) (pss_one ps_never) pss_nil)
      (pss_cons (ps_setLc (i := 3) (own := [("upper", 5), ("lower", 6)]) (g := (gTup K 2 (gCons (gName 5) (gCons (gName 6) gNil)))) (tt := tYes) (te := (tTup (tCons (tOp (rI0 fun i j => .int (i - j)) (tVar 5) (tCB (fun xs H Q => (∃ i, xs = [.int i] ∧ Q (.int i) H) ∨ ∃ k, xs = [.bl k] ∧ Q (.int (if k then 1 else 0)) H) (tCons (tOp (rI0 fun i j => .bl (decide (j < i))) (tVar 5) (tVar 2)) tNil))) (tCons (tOp (rI0 fun i j => .int (i - j)) (tVar 6) (tCB (fun xs H Q => (∃ i, xs = [.int i] ∧ Q (.int i) H) ∨ ∃ k, xs = [.bl k] ∧ Q (.int (if k then 1 else 0)) H) (tCons (tOp (rI0 fun i j => .bl (decide (j < i))) (tVar 6) (tVar 2)) tNil))) tNil)))) rfl nd rfl rfl (sw_true rfl rfl rfl (by decide +kernel)) (pi_tup (rf_prop (pv 0) (T.cl_N r) (T.p_N_cells r) (ok_Network_cells T r) hr)) (blkOk_by (N := ["net", "index", "gone", "cells", "outputs", "upper", "lower", "node", "cell"]) (sc := defScope s_without_cell) (by decide +kernel)) (fun _ _ _ _ _ => (pg_tup rfl (pgs_cons (pg_name (i := 5) nd rfl (Or.inl rfl)) (pgs_cons (pg_name (i := 6) nd rfl (Or.inl rfl)) pgs_nil)))) (fun _ _ _ _ _ => pts_nil) (fun _ _ _ _ _ => (pe_tup (pa_cons (pe_op op_sub (pv 5) (pe_callTy call_int1 (by rfl) T.b_int (by decide +kernel) (pa_cons (pe_cmpR op_gt (pv 5) (pv 2) (nomark _)) pa_nil))) (pa_cons (pe_op op_sub (pv 6) (pe_callTy call_int1 (by rfl) T.b_int (by decide +kernel) (pa_cons (pe_cmpR op_gt (pv 6) (pv 2) (nomark _)) pa_nil))) pa_nil)))))
      (pss_cons (ps_setLc (i := 4) (own := [("node", 7)]) (g := (gName 7)) (tt := tYes) (te := (tOp (rI0 fun i j => .int (i - j)) (tVar 7) (tCB (fun xs H Q => (∃ i, xs = [.int i] ∧ Q (.int i) H) ∨ ∃ k, xs = [.bl k] ∧ Q (.int (if k then 1 else 0)) H) (tCons (tOp (rI0 fun i j => .bl (decide (j < i))) (tVar 7) (tVar 2)) tNil)))) rfl nd rfl rfl (sw_true rfl rfl rfl (by decide +kernel)) (pi_tup (rf_prop (pv 0) (T.cl_N r) (T.p_N_outputs r) (ok_Network_outputs T r) hr)) (blkOk_by (N := ["net", "index", "gone", "cells", "outputs", "upper", "lower", "node", "cell"]) (sc := defScope s_without_cell) (by decide +kernel)) (fun _ _ _ _ _ => (pg_name (i := 7) nd rfl (Or.inl rfl))) (fun _ _ _ _ _ => pts_nil) (fun _ _ _ _ _ => (pe_op op_sub (pv 7) (pe_callTy call_int1 (by rfl) T.b_int (by decide +kernel) (pa_cons (pe_cmpR op_gt (pv 7) (pv 2) (nomark _)) pa_nil)))))
      (pss_one (ps_ret (rf_call (ok_of_kind T r) hr T.g_of_kind T.k_of_kind (pa_cons (pv 0) (pa_cons (rf_prop (pv 0) (T.cl_N r) (T.p_N_size r) (ok_Network_size T r) hr) (pa_cons (pe_op op_cat (pe_slice sl_list (pv 3) po_none (po_some (pv 1))) (pe_slice sl_list (pv 3) (po_some (pe_op op_add (pv 1) pe_int)) po_none)) (pa_cons (pv 4) pa_nil)))))))))))), ?_⟩
      refine ⟨_, rfl, _, rfl, a, dx, _, rfl, h1, a, M, rfl, hnet, M.cs.length, rfl, by omega, _, _, rfl, rfl, (k : Int), 0, _, rfl, ?_⟩
      rw [decide_eq_true ⟨by omega, by omega⟩]
      refine ⟨true, rfl, iteF ?_⟩
      obtain ⟨g, hg⟩ : ∃ g, M.n + 1 + k = g := ⟨_, rfl⟩
      rw [hg] at a3 a4 q hM' hn'
      have eg : V.int ((M.n : Int) + 1 + (k : Int)) = V.int (g : Int) := congrArg V.int (by omega)
      refine ⟨_, rfl, a, dx, _, rfl, h1, a, M, rfl, hnet, _, _, rfl, rfl, _, rfl, _, _, rfl, rfl, ?_⟩
      show gName 2 (V.int ((M.n : Int) + 1 + (k : Int))) _ _ _
      rw [eg]
      refine ⟨_, rfl, _, rfl, a, dx, _, rfl, h1, a, M, rfl, hnet, fun e2 he2 => ⟨e2, _, rfl, .inr he2, rfl, flat_ints _, _, rfl, ?_⟩⟩
      rw [inV_ints, decide_eq_false a3]
      refine iteF ?_
      refine ⟨_, rfl, a, dx, _, rfl, h1, a, M, rfl, hnet, fun j2 hj2 => ?_⟩
      obtain ⟨cas, hca, rc⟩ := id hj2
      have hlen : cas.length = M.cs.length := rc.1
      have wcs : ∀ (j2 : Addr) (cas : List Addr), cas.length = M.cs.length → Walk (Itt K j2) M.cs.length (fun H => SqT K H j2 (cas.map V.ref)) (YAt (cas.map V.ref)) := fun j2 cas hl => by
        have w := walk_tup (K := K) (a := j2) (xs := cas.map V.ref)
        rwa [List.length_map, hl] at w
      refine ⟨j2, rfl, ⟨_, hca⟩, fun D hD => ?_⟩
      refine lc_map (items := M.cs) hD (wcs j2 cas hlen) (fun H v x => v = .bl false) (fun H H' v x e h => h) (sz7 (by omega)) (fun H4 s4 => Same.sqt s4 hca) (fun i c ec H4 s4 Ky hy v H' y => ?_) (fun acc H4 s4 hd4 rel => ?_)
      · obtain ⟨rfl, hx⟩ := y
        obtain ⟨pc, hpc, rfl⟩ := refs_get hx
        have hcell : CellAt K H' pc c := CellAt.mono s4 (rc.2 i pc c hpc ec)
        obtain ⟨b1, b2⟩ := a4 c (List.mem_of_getElem? ec)
        refine ⟨rfl, _, rfl, _, rfl, pc, _, rfl, .inr hcell, rfl, rfl, ?_⟩
        refine hy _ _ (Same.refl _) ?_
        show V.bl (inV (.int (g : Int)) (nInts [c.1, c.2])) = V.bl false
        rw [inV_ints, decide_eq_false (by simp; omega)]
      have eacc := rel_map rel
      refine ⟨D, M.cs.map fun _ => false, rfl, .inl (.inl (by rw [hd4, eacc, List.map_map]; rfl)), _, rfl, ?_⟩
      have eany : (M.cs.map fun _ => false).any id = false := by simp
      rw [eany]
      refine iteF ?_
      have hnet4 := NetAt.mono s4 hnet
      -- the cells left
      refine ⟨_, rfl, a, dx, _, rfl, s4 _ _ h1, a, M, rfl, hnet4, fun j3 hj3 => ?_⟩
      obtain ⟨cas3, hca3, rc3⟩ := id hj3
      refine ⟨j3, rfl, ⟨_, hca3⟩, fun D3 hD3 => ?_⟩
      have shift : ∀ v : Nat, v ≠ g → ((v : Int) - (if decide ((g : Int) < (v : Int)) = true then 1 else 0)) = ((nm g 0 v : Nat) : Int) := by
        intro v hv
        unfold nm
        by_cases h : v < g
        · rw [if_pos h, decide_eq_false (by omega)]; simp
        · rw [if_neg h, if_neg hv, decide_eq_true (by omega)]; simp; omega
      refine lc_map (items := M.cs) hD3 (wcs j3 cas3 rc3.1) (fun H v x => ∃ p, v = .ref p ∧ CellAt K H p (nm g 0 x.1, nm g 0 x.2)) (fun H H' v x e ⟨p, h, o⟩ => ⟨p, h, Ext.cell e o⟩) (sz7 (by omega)) (fun H5 s5 => Same.sqt s5 hca3) (fun i c ec H5 s5 Ky hy v H' y => ?_) (fun acc3 H5 s5 hd5 rel5 => ?_)
      · obtain ⟨rfl, hx⟩ := y
        obtain ⟨pc, hpc, rfl⟩ := refs_get hx
        have hcell : CellAt K H' pc c := CellAt.mono s5 (rc3.2 i pc c hpc ec)
        obtain ⟨b1, b2⟩ := a4 c (List.mem_of_getElem? ec)
        refine ⟨pc, _, rfl, hcell, rfl, _, _, rfl, _, _, rfl, rfl, rfl, ?_⟩
        refine ⟨_, rfl, _, rfl, _, rfl, _, _, rfl, rfl, .inr ⟨_, rfl, _, _, rfl, rfl, _, rfl, _, rfl, _, rfl, _, _, rfl, rfl, .inr ⟨_, rfl, _, _, rfl, rfl, by show 2 ≤ sizeLine; decide, fun t ht => ?_⟩⟩⟩
        refine hy _ _ (Same.new ht) ⟨t, rfl, isT ?_⟩
        rw [upd_same]
        show some (HO.tup [V.int _, V.int _]) = some (HO.tup [V.int _, V.int _])
        rw [← shift _ b1, ← shift _ b2]
      obtain ⟨as5, rfl, rel5'⟩ := refs_of rel5
      have hcs5 : Rel2 (CellAt K H5) as5 (M.cs.map fun c => (nm g 0 c.1, nm g 0 c.2)) := rel5'.map
      have s45 := s4.trans s5
      have hnet5 := NetAt.mono s45 hnet
      refine ⟨_, rfl, a, dx, _, rfl, s45 _ _ h1, a, M, rfl, hnet5, fun e6 he6 => ?_⟩
      refine ⟨e6, rfl, ⟨_, he6⟩, fun D6 hD6 => ?_⟩
      refine lc_map (items := M.os) hD6 (by have w := walk_tup (K := K) (a := e6) (xs := nInts M.os); rwa [nInts_len] at w) (fun H v x => v = .int ((nm g 0 x : Nat) : Int)) (fun H H' v x e h => h) (sz7 (by omega)) (fun H7 s7 => Same.sqt s7 he6) (fun i o eo H7 s7 Ky hy v H' y => ?_) (fun acc7 H7 s7 hd7 rel7 => ?_)
      · obtain ⟨rfl, hx⟩ := y
        obtain ⟨o', ho', rfl⟩ := nInts_get hx
        rw [eo] at ho'
        cases ho'
        have ho : o ≠ g := fun z => a3 (z ▸ List.mem_of_getElem? eo)
        refine ⟨rfl, _, rfl, _, rfl, _, rfl, _, _, rfl, rfl, .inr ⟨_, rfl, _, _, rfl, rfl, ?_⟩⟩
        refine hy _ _ (Same.refl _) ?_
        show V.int _ = V.int _
        rw [← shift _ ho]
      have e7 : acc7 = nInts (M.os.map (nm g 0)) := by rw [rel_map rel7]; simp [nInts]
      subst e7
      have s47 := s45.trans s7
      have hnet7 := NetAt.mono s47 hnet
      have hd57 := s7 _ _ hd5
      have l5 : as5.length = M.cs.length := by rw [rel5'.1]
      refine ⟨_, rfl, _, rfl, a, dx, _, rfl, s47 _ _ h1, a, M, rfl, hnet7, ?_⟩
      refine ⟨_, rfl, _, rfl, _, rfl, D3, _, rfl, isL hd57, fun p1 hp1 => ?_⟩
      rw [cut_take (by rw [List.length_map]; omega), ← List.map_take]
      have s8 := Same.new (o := .lst ((as5.take k).map V.ref)) hp1
      have hp1' : upd H7 p1 (.lst ((as5.take k).map V.ref)) p1 = some (.lst ((as5.take k).map V.ref)) := upd_same
      generalize upd H7 p1 (.lst ((as5.take k).map V.ref)) = H8 at s8 hp1' ⊢
      refine ⟨_, rfl, _, rfl, _, _, rfl, rfl, _, rfl, D3, _, rfl, isL (s8 _ _ hd57), fun p2 hp2 => ?_⟩
      rw [show ((k : Int) + 1) = ((k + 1 : Nat) : Int) by omega, cut_drop (by rw [List.length_map]; omega), ← List.map_drop]
      have s9 := Same.new (o := .lst ((as5.drop (k + 1)).map V.ref)) hp2
      have hp2' : upd H8 p2 (.lst ((as5.drop (k + 1)).map V.ref)) p2 = some (.lst ((as5.drop (k + 1)).map V.ref)) := upd_same
      generalize upd H8 p2 (.lst ((as5.drop (k + 1)).map V.ref)) = H9 at s9 hp2' ⊢
      refine ⟨p1, p2, _, _, rfl, rfl, s9 _ _ hp1', hp2', by simp; exact sz10 (by omega), fun p3 hp3 => ?_⟩
      rw [← List.map_append]
      have s10 := Same.new (o := .lst ((as5.take k ++ as5.drop (k + 1)).map V.ref)) hp3
      have hp3' : upd H9 p3 (.lst ((as5.take k ++ as5.drop (k + 1)).map V.ref)) p3 = some (.lst ((as5.take k ++ as5.drop (k + 1)).map V.ref)) := upd_same
      generalize upd H9 p3 (.lst ((as5.take k ++ as5.drop (k + 1)).map V.ref)) = H10 at s10 hp3' ⊢
      have s710 := (s8.trans s9).trans s10
      have sF := s47.trans s710
      refine ⟨_, rfl, a, p3, D6, M, without M g 0, rfl, NetAt.mono sF hnet, ⟨_, .inl (isL hp3'), ?_⟩, .inl (isL (s710 _ _ hd7)), hM', fun x H' s' n o => q x H' (sF.trans s') (sF.free n) o⟩
      have hcsF := hcs5.imp fun _ _ z => CellAt.mono (s7.trans s710) z
      have ee : (without M g 0).cs = (M.cs.map fun c => (nm g 0 c.1, nm g 0 c.2)).take k ++ (M.cs.map fun c => (nm g 0 c.1, nm g 0 c.2)).drop (k + 1) := by
        show (M.cs.eraseIdx (g - M.n - 1)).map _ = _
        rw [show g - M.n - 1 = k by omega, List.eraseIdx_eq_take_drop_succ, List.map_append, List.map_take, List.map_drop]
      rw [ee]
      exact (hcsF.take k).append (hcsF.drop (k + 1))
    · cases hdone
end
end Cp
/-! rebuilt, merge. -/
namespace Cp
open PySem PySem.Spec PyProof.Rows L2
theorem len_putK {kvs : List (Key × V)} {k : Key} {v : V} : (putK kvs k v).length ≤ kvs.length + 1 := by
  unfold putK
  split <;> simp
/-- {x: f x for ..} -/
theorem dc_map {J : It} {G : Hp → Prop} {Y : Nat → Hp → V → Hp → Prop} {g : TG} {tk tv : TE} {vs : List Nat} {σ : L2.St} {H1 : Hp} {D : Addr} {Qd : Hp → Prop} {items : List Nat} (hD : H1 D = none) (w : Walk J items.length G Y) (f : Nat → Nat) (hz : items.length < sizeLine) (hG : ∀ H, Same H1 H → G H)
    (hgo : ∀ (i x : Nat), items[i]? = some x → ∀ H, Same H1 H → ∀ (Kz : V → V → Hp → Prop), (∀ H4, Same H H4 → Kz (.int (x : Int)) (.int (f x : Nat)) H4) →
      ∀ v H', Y i H v H' → g v (wipe σ vs) H' fun σ2 H2 => wipe σ2 vs = wipe σ vs ∧ tk σ2 H2 fun y H4 => tv σ2 H4 fun z H5 => Kz y z H5)
    (hQ : ∀ kvs H, Same H1 H → H D = some (.dK kvs) → kvs.length ≤ items.length → (∀ x ∈ items, valV kvs (.inl (x : Int)) = some (.int (f x : Nat))) → Qd H) :
    ∃ W : Nat → Nat → Hp → Prop, (∃ m, W 0 m (upd H1 D (.dK []))) ∧ ∀ i m H, W i m H →
      (J.stop i H ∧ Qd H) ∨ (J.go i H ∧ ∃ Nx : Hp → Prop, (∀ H', Nx H' → ∃ m', m' < m ∧ W (i + 1) m' H') ∧ ∀ x H', J.yld i H x H' → g x (wipe σ vs) H' fun σ2 H2 => wipe σ2 vs = wipe σ vs ∧ tYes σ2 H2 fun b H3 =>
        if b = true then tk σ2 H3 fun y H4 => tv σ2 H4 fun z H5 => ∃ kvs k, y = kV k ∧ H5 D = some (.dK kvs) ∧ kvs.length < sizeLine ∧ Nx (upd H5 D (.dK (putK kvs k z))) else Nx H3) := by
  let Pv : Nat → Hp → Prop := fun i H => ∃ kvs, Same H1 H ∧ H D = some (.dK kvs) ∧ kvs.length ≤ i ∧ ∀ x ∈ items.take i, valV kvs (.inl (x : Int)) = some (.int (f x : Nat))
  refine ⟨fun i m H => m = items.length - i ∧ i ≤ items.length ∧ Pv i H, ⟨_, rfl, Nat.zero_le _, [], Same.new hD, upd_same, Nat.le_refl _, fun x hx => by simp at hx⟩, ?_⟩
  rintro i m H ⟨rfl, hi, kvs, s1, hd, hl, hk⟩
  by_cases hlt : i < items.length
  · refine .inr ⟨w.goes i H hlt (hG H s1), Pv (i + 1), fun H' p' => ⟨items.length - (i + 1), by omega, rfl, hlt, p'⟩, fun v H' y => ?_⟩
    have e : items[i]? = some items[i] := List.getElem?_eq_getElem hlt
    refine hgo i _ e H s1 _ (fun H4 s4 => ?_) v H' (w.yields i H v H' hlt (hG H s1) y)
    refine ⟨kvs, .inl (items[i] : Int), rfl, s4 _ _ hd, by omega, putK kvs (.inl (items[i] : Int)) (.int (f items[i] : Nat)), Same.mut (s1.trans s4) hD, upd_same, Nat.le_trans len_putK (by omega), fun x hx => ?_⟩
    rw [valV_put]
    by_cases hxe : x = items[i]
    · subst hxe; rw [if_pos rfl]
    · rw [if_neg (fun z => hxe (by have := Sum.inl.inj z; omega))]
      rw [take_succ_of e] at hx
      rcases List.mem_append.mp hx with q | q
      · exact hk x q
      · simp at q; exact absurd q hxe
  · have ei : i = items.length := by omega
    subst ei
    rw [List.take_length] at hk
    exact .inl ⟨w.stops H (hG H s1), hQ kvs H s1 hd hl hk⟩
theorem erase_snoc {α : Type} {l : List α} {c : α} {i k : Nat} (hl : l.length = i) (h : i ≠ k) : (l ++ [c]).eraseIdx k = l.eraseIdx k ++ [c] := by
  rcases Nat.lt_or_ge k i with q | q
  · rw [List.eraseIdx_append_of_lt_length (by omega)]
  · rw [List.eraseIdx_of_length_le (by simp; omega), List.eraseIdx_of_length_le (by omega)]
theorem erase_last {α : Type} {l : List α} {c : α} {k : Nat} (hl : l.length = k) : (l ++ [c]).eraseIdx k = l.eraseIdx k := by
  rw [List.eraseIdx_append_of_length_le (by omega), List.eraseIdx_of_length_le (l := l) (by omega), hl]
  simp
def stnd (b a v : Nat) : Nat := if v = b then a else v
section
variable {P : Program} {w : World} {K : PySem.W.Frag} {mg : Str → Option Value} {base : Heap}
def spRebuilt (K : PySem.W.Frag) (r : Bool) : Sp := fun vs H Q _ => ∃ (a d e : Addr) (M : Net) (kvs : List (Key × V)) (b a0 : Nat), vs = [.ref a, .int M.n, .ref d, .ref e] ∧ NetAt K r H a M ∧ NetOk r M ∧ SqT K H e (nInts M.os) ∧ H d = some (.dK kvs) ∧
  (∀ v, inN r M v → valV kvs (.inl (v : Int)) = some (.int (stnd b a0 v : Nat))) ∧ (M.n < b ∧ b ≤ M.n + M.cs.length ∧ low r ≤ a0 ∧ a0 < b) ∧ ∀ x H', Same H H' → H x = none → NetAt K r H' x (without M b a0) → Q (.ref x) H'
theorem sc_rebuilt : FnScope ["net", "n", "stands", "ends", "numbers", "cells", "node", "position", "upper", "lower", "end"] ["net", "n", "stands", "ends"] (defScope s_rebuilt) := ⟨rfl, rfl, rfl, by decide +kernel, rfl, by decide +kernel, by decide +kernel⟩
theorem ok_rebuilt (T : Txt w K mg) (r : Bool) : FnR P w K mg base CX0 7 (gA "rebuilt" K) (spRebuilt K r) := by
  obtain ⟨fd, F⟩ := T.f_rebuilt
  refine mkR F sc_rebuilt (fun _ _ _ _ _ _ us hl => match us, hl with | [_, _, _, _], _ => rfl) (fun vs H Q E h => ?_) (fun cdv A outer s H vs Q E hr h => ?_)
  · obtain ⟨a, d, e, M, kvs, b, a0, rfl, _⟩ := h
    rfl
  · obtain ⟨a, d, e, M, kvs, b, a0, rfl, hnet, hM, he, hd, hst, ⟨hb1, hb2, ha1, ha2⟩, q⟩ := h
    have nd := sc_rebuilt.nd
    obtain ⟨dx, j, e0, hd0, h1, _⟩ := id hnet
    have hm := hM.many
    have hn := hM.hi
    have hos := hM.outs
    have hlow := low_le r
    have hlo := hM.lo
    obtain ⟨u3, c3⟩ := T.v_low r
    refine ⟨_, (pss_cons (ps_set (i := 4) nd rfl (Or.inr rfl) (pe_dc (own := [("position", 7)]) (g := (gName 7)) (tt := tYes) (tk := (tVar 7)) (tv := (tVar 7)) rfl nd (pi_range2 (by rfl) T.b_range (pa_cons (pe_con (pv 0) rfl) (pa_cons (pe_op op_add (pv 1) pe_int) pa_nil))) (blkOk_by (N := ["net", "n", "stands", "ends", "numbers", "cells", "node", "position", "upper", "lower", "end"]) (sc := defScope s_rebuilt) (by decide +kernel)) (fun _ _ _ _ _ => (pg_name (i := 7) nd rfl (Or.inl rfl))) (fun _ _ _ _ _ => pts_nil) (fun _ _ _ _ _ => (pv 7)) (fun _ _ _ _ _ => (pv 7))))
      (pss_cons (ps_set (i := 5) nd rfl (Or.inl rfl) (pe_lst pa_nil))
      (pss_cons (ps_for PassesOwn.never rfl (pi_list (rf_call (ok_cell_nodes T r) hr T.g_cell_nodes T.k_cell_nodes (pa_cons (pv 0) pa_nil))) (pg_name (i := 6) nd rfl (Or.inl rfl))
        (pss_one (ps_if (pt_cmpR op_eq (pe_dget (hu_of hr) (pv 2) (pv 6) (fun _ _ => rfl)) (pv 6) (nomark _)) (pss_cons (ps_asg (rf_call (ok_inputs_of T r) hr T.g_inputs_of T.k_inputs_of (pa_cons (pv 0) (pa_cons (pv 6) pa_nil))) (pg_tup rfl (pgs_cons (pg_name (i := 8) nd rfl (Or.inl rfl)) (pgs_cons (pg_name (i := 9) nd rfl (Or.inl rfl)) pgs_nil))))
      (pss_cons (ps_expr (pe_bm PySem.F.plainAttrs_list PySem.F.slot_list_append PySem.F.type_list_append mt_append (pv 5) (pa_cons (pe_tup (pa_cons (pe_dget (hu_of hr) (pv 4) (pe_dget (hu_of hr) (pv 2) (pv 8) (fun _ _ => rfl)) (fun _ _ => rfl)) (pa_cons (pe_dget (hu_of hr) (pv 4) (pe_dget (hu_of hr) (pv 2) (pv 9) (fun _ _ => rfl)) (fun _ _ => rfl)) pa_nil))) pa_nil)))
      (pss_one (ps_dput (hu_of hr) (pv 4) (pv 6) (pe_op op_add (pv 1) (pe_callB call_len (by rfl) T.b_len (by decide +kernel) (pa_cons (pv 5) pa_nil))) rfl)))) pss_nil)))
      (pss_one (ps_ret (rf_call (ok_of_kind T r) hr T.g_of_kind T.k_of_kind (pa_cons (pv 0) (pa_cons (pv 1) (pa_cons (pv 5) (pa_cons (pe_lc (own := [("end", 10)]) (g := (gName 10)) (tt := tYes) (te := (tDGet (tVar 4) (tDGet (tVar 2) (tVar 10)))) rfl nd (pi_tup (pv 3)) (blkOk_by (N := ["net", "n", "stands", "ends", "numbers", "cells", "node", "position", "upper", "lower", "end"]) (sc := defScope s_rebuilt) (by decide +kernel)) (fun _ _ _ _ _ => (pg_name (i := 10) nd rfl (Or.inl rfl))) (fun _ _ _ _ _ => pts_nil) (fun _ _ _ _ _ => (pe_dget (hu_of hr) (pv 4) (pe_dget (hu_of hr) (pv 2) (pv 10) (fun _ _ => rfl)) (fun _ _ => rfl)))) pa_nil)))))))))), ?_⟩
    refine ⟨_, rfl, a, _, dx, _, _, u3, rfl, h1, T.cl_N r, c3, rfl, _, rfl, _, _, rfl, rfl, _, _, rfl, ⟨by omega, by omega, by omega, by omega⟩, fun N hN => ?_⟩
    obtain ⟨at_, hat⟩ : ∃ at_, b = M.n + 1 + at_ := ⟨b - M.n - 1, by omega⟩
    have hst0 : ∀ v, stnd b a0 v ≠ b := fun v => by unfold stnd; split <;> omega
    have hnm : ∀ v, nm b a0 (stnd b a0 v) = nm b a0 v := fun v => by
      unfold nm stnd
      by_cases h : v = b
      · subst h
        rw [if_pos rfl, if_pos ha2, if_neg (by omega), if_pos rfl]
      · rw [if_neg h]
    have hstb : ∀ v m, low r ≤ v → v ≤ M.n + m → low r ≤ stnd b a0 v ∧ stnd b a0 v ≤ M.n + m := fun v m h1 h2 => by unfold stnd; split <;> omega
    refine dc_map (items := (List.range (M.n + 1 - low r)).map fun i => low r + i) hN (G := fun _ => True) (Y := YFn fun i => .int ((low r : Nat) + (i : Nat) : Int)) (by
      have w := w_range (lo := (low r : Nat)) (m := (M.n : Int) + 1 - (low r : Nat)) (k := M.n + 1 - low r) (by omega)
      rw [List.length_range] at w
      rw [List.length_map, List.length_range]
      exact w) (fun x => x) (by simp; exact sz7 (by omega)) (fun _ _ => trivial) (fun i x ex H1 s1 Kz hy v H' y => ?_) (fun kn H1 s1 hN1 hlk hk => ?_)
    · obtain ⟨rfl, rfl⟩ := y
      rw [List.getElem?_map] at ex
      cases er : (List.range (M.n + 1 - low r))[i]? with
      | none => rw [er] at ex; cases ex
      | some i' =>
        rw [er] at ex
        obtain ⟨rfl, _⟩ := range_get er
        cases ex
        have z := hy _ (Same.refl _)
        refine ⟨rfl, _, rfl, _, rfl, ?_⟩
        rw [Int.natCast_add] at z
        exact z
    rw [List.length_map, List.length_range] at hlk
    have hk0 : ∀ v, low r ≤ v → v ≤ M.n + 0 → v ≠ b → valV kn (.inl (v : Int)) = some (.int (nm b a0 v : Nat)) := fun v h1 h2 h3 => by
      have z := hk v (List.mem_map.mpr ⟨v - low r, List.mem_range.mpr (by omega), by omega⟩)
      have : nm b a0 v = v := by unfold nm; rw [if_pos (by omega)]
      rw [this]; exact z
    refine ⟨by show 0 ≤ sizeLine; decide, fun D hD => ?_⟩
    have s2' := Same.new (o := .lst []) hD
    have hD2 : upd H1 D (.lst []) D = some (.lst []) := upd_same
    generalize upd H1 D (.lst []) = H2 at s2' hD2 ⊢
    have s2 := s1.trans s2'
    have hHD : H D = none := s1.free hD
    refine ⟨_, rfl, a, M, rfl, NetAt.mono s2 hnet, hM, fun L hL => ?_⟩
    have s3' := Same.new (o := .lst (nInts ((List.range M.cs.length).map fun i => M.n + 1 + i))) hL
    have hL3 : upd H2 L (.lst (nInts ((List.range M.cs.length).map fun i => M.n + 1 + i))) L = some (.lst (nInts ((List.range M.cs.length).map fun i => M.n + 1 + i))) := upd_same
    generalize upd H2 L (.lst (nInts ((List.range M.cs.length).map fun i => M.n + 1 + i))) = H3 at s3' hL3 ⊢
    have s3 := s2.trans s3'
    have hLD : L ≠ D := fun z => by rw [z, hD2] at hL; cases hL
    refine ⟨L, rfl, ⟨_, isL hL3⟩, ?_⟩
    have hll : (nInts ((List.range M.cs.length).map fun i => M.n + 1 + i)).length = M.cs.length := by simp [nInts]
    have ww := walk_list (K := K) (a := L) (xs := nInts ((List.range M.cs.length).map fun i => M.n + 1 + i))
    rw [hll] at ww
    refine for_it ww (fun i σ H4 => ∃ v6 v7 v8 v9 v10 as kn, σ = [some (.ref a), some (.int M.n), some (.ref d), some (.ref e), some (.ref N), some (.ref D), v6, v7, v8, v9, v10] ∧ Same H H4 ∧
        H4 L = some (.lst (nInts ((List.range M.cs.length).map fun i => M.n + 1 + i))) ∧ H4 D = some (.lst (as.map V.ref)) ∧ Rel2 (CellAt K H4) as (((M.cs.take i).eraseIdx at_).map fun c => (nm b a0 c.1, nm b a0 c.2)) ∧
        H4 N = some (.dK kn) ∧ kn.length ≤ 30 + i ∧ ∀ v, low r ≤ v → v ≤ M.n + i → v ≠ b → valV kn (.inl (v : Int)) = some (.int (nm b a0 v : Nat)))
      ⟨none, none, none, none, none, [], kn, rfl, s3, hL3, s3' _ _ hD2, by simpa using Rel2.nil, s3' _ _ (s2' _ _ hN1), by omega, hk0⟩
      (fun i σ H4 _ ⟨v6, v7, v8, v9, v10, as, kn, eσ, s4, hL4, _⟩ => isL hL4) (fun i x σ H4 H5 hi ⟨v6, v7, v8, v9, v10, as, kn, eσ, s4, hL4, hD4, rc4, hN4, hlk4, hk4⟩ y => ?_)
      (fun σ H4 ⟨v6, v7, v8, v9, v10, as, kn, eσ, s4, hL4, hD4, rc4, hN4, hlk4, hk4⟩ => ?_)
    · obtain ⟨rfl, hx⟩ := y
      obtain ⟨x0, hx0, rfl⟩ := nInts_get hx
      rw [List.getElem?_map, List.getElem?_range hi] at hx0
      have e0 : M.n + 1 + i = x0 := Option.some.inj hx0
      subst e0
      subst eσ
      have ec : M.cs[i]? = some M.cs[i] := List.getElem?_eq_getElem hi
      obtain ⟨g1, g2, g3, g4⟩ := hM.cell i M.cs[i].1 M.cs[i].2 ec
      have hti : (M.cs.take i).length = i := by simp; omega
      have hd4 := s4 _ _ hd
      have hND : N ≠ D := ne_of hN4 hD4 (fun z => by cases z)
      have getS : ∀ (Hx : Hp) (v : Nat), Hx d = some (.dK kvs) → low r ≤ v → v ≤ M.n + M.cs.length → DGet Hx d (.int (v : Int)) (some (.int (stnd b a0 v : Nat))) := fun Hx v hh b1 b2 => by
        have z := DGet.k (k := .inl (v : Int)) hh
        rw [hst v ⟨b1, b2⟩] at z
        exact z
      refine ⟨_, rfl, _, rfl, d, _, rfl, getS _ _ hd4 (by omega) (by omega), _, rfl, rfl, _, rfl, ?_⟩
      rw [dInt]
      by_cases hia : i = at_
      · subst hia
        have : stnd b a0 (M.n + 1 + i) = a0 := by unfold stnd; rw [if_pos (by omega)]
        rw [this, decide_eq_false (by omega)]
        refine iteF ⟨_, _, _, _, _, as, kn, rfl, s4, hL4, hD4, ?_, hN4, by omega, fun v b1 b2 b3 => hk4 v b1 (by omega) b3⟩
        rw [take_succ_of ec, erase_last hti]
        exact rc4
      · have : stnd b a0 (M.n + 1 + i) = M.n + 1 + i := by unfold stnd; rw [if_neg (by omega)]
        rw [this, decide_eq_true rfl]
        refine iteT ?_
        refine ⟨_, rfl, _, rfl, a, M, i, M.cs[i], rfl, NetAt.mono s4 hnet, ec, fun p hp => ?_⟩
        refine ⟨p, _, rfl, hp, rfl, _, _, rfl, _, _, rfl, rfl, ?_⟩
        have getN : ∀ (Hx : Hp) (v : Nat), Hx N = some (.dK kn) → low r ≤ v → v ≤ M.n + i → DGet Hx N (.int (stnd b a0 v : Nat)) (some (.int (nm b a0 v : Nat))) := fun Hx v hh b1 b2 => by
          have z := DGet.k (k := .inl ((stnd b a0 v : Nat) : Int)) hh
          obtain ⟨c1, c2⟩ := hstb v i b1 b2
          rw [hk4 _ c1 c2 (hst0 v), hnm] at z
          exact z
        refine ⟨_, rfl, .inl ⟨rfl, _, isL hD4⟩, ?_⟩
        refine ⟨_, rfl, _, rfl, _, rfl, d, _, rfl, getS _ _ hd4 g1 (by omega), N, _, rfl, getN _ _ hN4 g1 g2, ?_⟩
        refine ⟨_, rfl, _, rfl, _, rfl, d, _, rfl, getS _ _ hd4 g3 (by omega), N, _, rfl, getN _ _ hN4 g3 g4, by show 2 ≤ sizeLine; decide, fun t ht => ?_⟩
        have s5' := Same.new (o := .tup [.int (nm b a0 M.cs[i].1 : Nat), .int (nm b a0 M.cs[i].2 : Nat)]) ht
        have ht5 : upd H5 t (.tup [.int (nm b a0 M.cs[i].1 : Nat), .int (nm b a0 M.cs[i].2 : Nat)]) t = some (.tup [.int (nm b a0 M.cs[i].1 : Nat), .int (nm b a0 M.cs[i].2 : Nat)]) := upd_same
        generalize upd H5 t (.tup [.int (nm b a0 M.cs[i].1 : Nat), .int (nm b a0 M.cs[i].2 : Nat)]) = H6 at s5' ht5 ⊢
        have hD6 := s5' _ _ hD4
        have hlas : as.length ≤ i := by rw [rc4.1, List.length_map]; refine Nat.le_trans (List.length_eraseIdx_le _ _) (by omega)
        refine ⟨D, _, _, rfl, rfl, hD6, by rw [List.length_map]; exact sz7 (by omega), ?_⟩
        have x7 : Ext H6 (upd H6 D (.lst (as.map V.ref ++ [.ref t]))) := Ext.lst hD6
        have s7 : Same H (upd H6 D (.lst (as.map V.ref ++ [.ref t]))) := Same.mut (s4.trans s5') hHD
        have hD7 : upd H6 D (.lst (as.map V.ref ++ [.ref t])) D = some (.lst ((as ++ [t]).map V.ref)) := by rw [upd_same, List.map_append]; rfl
        have hN7 : upd H6 D (.lst (as.map V.ref ++ [.ref t])) N = some (.dK kn) := by rw [upd_ne hND]; exact s5' _ _ hN4
        have hL7 : upd H6 D (.lst (as.map V.ref ++ [.ref t])) L = some (.lst (nInts ((List.range M.cs.length).map fun i => M.n + 1 + i))) := by rw [upd_ne hLD]; exact s5' _ _ hL4
        have hLN : L ≠ N := ne_of hL7 hN7 (fun z => by cases z)
        have rc7 : Rel2 (CellAt K (upd H6 D (.lst (as.map V.ref ++ [.ref t])))) (as ++ [t]) (((M.cs.take (i + 1)).eraseIdx at_).map fun c => (nm b a0 c.1, nm b a0 c.2)) := by
          rw [take_succ_of ec, erase_snoc hti hia, List.map_append]
          exact (rc4.imp fun _ _ z => Ext.cell ((Same.ext s5').trans x7) z).snoc (Ext.cell x7 (isT ht5))
        generalize upd H6 D (.lst (as.map V.ref ++ [.ref t])) = H7 at s7 hD7 hN7 hL7 rc7 ⊢
        refine ⟨_, rfl, _, rfl, _, (as ++ [t]).length, rfl, .inl ⟨_, isL hD7, by rw [List.length_map]⟩, _, _, rfl, rfl, ?_⟩
        refine ⟨_, rfl, _, rfl, N, _, rfl, DPut.k (k := .inl ((M.n + 1 + i : Nat) : Int)) hN7 (sz7 (by omega)), ?_⟩
        refine ⟨_, _, _, _, _, as ++ [t], _, rfl, Same.mut s7 hN, by rw [upd_ne hLN]; exact hL7, by rw [upd_ne (Ne.symm hND)]; exact hD7, rc7.imp fun _ _ z => Ext.cell (Ext.dK hN7) z, upd_same, Nat.le_trans len_putK (by omega), fun v b1 b2 b3 => ?_⟩
        rw [valV_put]
        by_cases hv : v = M.n + 1 + i
        · subst hv
          rw [if_pos rfl]
          have e1 : (as ++ [t]).length = if i < at_ then i + 1 else i := by
            rw [rc7.1, List.length_map, List.length_eraseIdx]
            have : (M.cs.take (i + 1)).length = i + 1 := by simp; omega
            rw [this]
            by_cases h : i < at_
            · rw [if_neg (by omega), if_pos h]
            · rw [if_pos (by omega), if_neg h]; omega
          refine congrArg some (congrArg V.int ?_)
          rw [e1]
          unfold nm
          by_cases h : i < at_
          · rw [if_pos h, if_pos (by omega)]; omega
          · rw [if_neg h, if_neg (by omega), if_neg b3]; omega
        · rw [if_neg (fun z => hv (by have := Sum.inl.inj z; omega))]
          exact hk4 v b1 (by omega) b3
    · subst eσ
      rw [List.take_length] at rc4
      have hd4 := s4 _ _ hd
      have he4 := Same.sqt s4 he
      refine ⟨_, rfl, _, rfl, _, rfl, _, rfl, e, rfl, ⟨_, he4⟩, fun D5 hD5 => ?_⟩
      refine lc_map (items := M.os) hD5 (by have w := walk_tup (K := K) (a := e) (xs := nInts M.os); rwa [nInts_len] at w) (fun H v x => v = .int ((nm b a0 x : Nat) : Int)) (fun H H' v x e h => h) (sz7 (by omega)) (fun H7 s7 => Same.sqt s7 he4) (fun i o eo H7 s7 Ky hy v H' y => ?_) (fun acc7 H7 s7 hd7 rel7 => ?_)
      · obtain ⟨rfl, hx⟩ := y
        obtain ⟨o', ho', rfl⟩ := nInts_get hx
        rw [eo] at ho'
        cases ho'
        obtain ⟨b1, b2⟩ := hM.out o (List.mem_of_getElem? eo)
        have z1 := DGet.k (k := .inl (o : Int)) (s7 _ _ hd4)
        rw [hst o ⟨b1, b2⟩] at z1
        have z2 := DGet.k (k := .inl ((stnd b a0 o : Nat) : Int)) (s7 _ _ hN4)
        obtain ⟨c1, c2⟩ := hstb o M.cs.length b1 b2
        rw [hk4 _ c1 c2 (hst0 o), hnm] at z2
        exact ⟨rfl, _, rfl, _, rfl, _, rfl, d, _, rfl, z1, N, _, rfl, z2, hy _ _ (Same.refl _) rfl⟩
      have e7 : acc7 = nInts (M.os.map (nm b a0)) := by rw [rel_map rel7]; simp [nInts]
      subst e7
      have sF := s4.trans s7
      refine ⟨a, D, D5, M, without M b a0, rfl, NetAt.mono sF hnet, ⟨as, .inl (isL (s7 _ _ hD4)), ?_⟩, .inl (isL hd7), without_ok hM hb1 hb2 (.inl ⟨ha1, ha2⟩), fun x H' s' n o => q x H' (sF.trans s') (sF.free n) o⟩
      have ee : (without M b a0).cs = ((M.cs.eraseIdx at_).map fun c => (nm b a0 c.1, nm b a0 c.2)) := by
        show (M.cs.eraseIdx (b - M.n - 1)).map _ = _
        rw [show b - M.n - 1 = at_ by omega]
      rw [ee]
      exact rc4.imp fun _ _ z => CellAt.mono s7 z
end
end Cp
/-! merge. -/
namespace Cp
open PySem PySem.Spec PyProof.Rows L2
section
variable {P : Program} {w : World} {K : PySem.W.Frag} {mg : Str → Option Value} {base : Heap}
def spMerge (K : PySem.W.Frag) (r : Bool) : Sp := fun vs H Q _ => ∃ (a : Addr) (M M' : Net) (u l : Nat), vs = [.ref a, .int u, .int l] ∧ NetAt K r H a M ∧ NetOk r M ∧ done r M (.merge u l) = some M' ∧ ∀ x H', Same H H' → H x = none → NetAt K r H' x M' → Q (.ref x) H'
theorem sc_merge : FnScope ["net", "node", "other", "orders", "stands", "one"] ["net", "node", "other"] (defScope s_merge) := ⟨rfl, rfl, rfl, by decide +kernel, rfl, by decide +kernel, by decide +kernel⟩
theorem ok_merge (T : Txt w K mg) (r : Bool) : FnR P w K mg base CX0 8 (gA "merge" K) (spMerge K r) := by
  obtain ⟨fd, F⟩ := T.f_merge
  refine mkR F sc_merge (fun _ _ _ _ _ _ us hl => match us, hl with | [_, _, _], _ => rfl) (fun vs H Q E h => ?_) (fun cdv A outer s H vs Q E hr h => ?_)
  · obtain ⟨a, M, M', u, l, rfl, _⟩ := h
    rfl
  · obtain ⟨a, M, M', u, l, rfl, hnet, hM, hdone, q⟩ := h
    have nd := sc_merge.nd
    obtain ⟨hM', hn'⟩ := done_ok hM hdone
    obtain ⟨dx, j, e, hd, h1, _⟩ := id hnet
    have hm := hM.many
    have hn := hM.hi
    have hlow := low_le r
    simp only [done] at hdone
    split at hdone
    · rename_i hc
      obtain ⟨⟨a1, a2⟩, ⟨a3, a4⟩, a5, a6, a7⟩ := hc
      unfold top1 at a2 a4
      cases hdone
      refine ⟨_, (pss_cons (ps_expr (rf_meth (pv 0) (T.cl_N r) (T.m_N_need_node r) (ok_Network_need_node T r) hr (pa_cons (pv 1) pa_nil)))
      (pss_cons (ps_expr (rf_meth (pv 0) (T.cl_N r) (T.m_N_need_node r) (ok_Network_need_node T r) hr (pa_cons (pv 2) pa_nil)))
      (pss_cons (ps_set (i := 3) nd rfl (Or.inl rfl) (rf_call (ok_node_orders T) hr T.g_node_orders T.k_node_orders (pa_cons (rf_prop (pv 0) (T.cl_N r) (T.p_N_size r) (ok_Network_size T r) hr) (pa_cons (rf_prop (pv 0) (T.cl_N r) (T.p_N_cells r) (ok_Network_cells T r) hr) pa_nil))))
      (pss_cons (ps_if (PW.pt (pw_or (pt_cmpR op_le (pv 2) (rf_prop (pv 0) (T.cl_N r) (T.p_N_size r) (ok_Network_size T r) hr) (nomark _)) (pw_or (pt_cmpR op_ge (pv 1) (pv 2) (nomark _)) (pw_or1 (pt_cmpR (op_ownNe T.m_Order_eq T.ne_Order T.is_Order.cm (ok_Order_eq T) hr) (pe_ix ix_list (pv 3) (pv 1) (fun _ _ => rfl)) (pe_ix ix_list (pv 3) (pv 2) (fun _ _ => rfl)) (nomark _)))))) (pss_one ps_never) pss_nil)
      (pss_cons (ps_setDc (i := 4) (own := [("one", 5)]) (g := (gName 5)) (tt := tYes) (tk := (tVar 5)) (tv := (tIf (tTest (tOp rEq (tVar 5) (tVar 2))) (tVar 1) (tVar 5))) rfl nd rfl rfl (sw_trueD rfl rfl rfl (by decide +kernel)) (pi_list (rf_call (ok_all_nodes T r) hr T.g_all_nodes T.k_all_nodes (pa_cons (pv 0) pa_nil))) (blkOk_by (N := ["net", "node", "other", "orders", "stands", "one"]) (sc := defScope s_merge) (by decide +kernel)) (fun _ _ _ _ _ => (pg_name (i := 5) nd rfl (Or.inl rfl))) (fun _ _ _ _ _ => pts_nil) (fun _ _ _ _ _ => (pv 5)) (fun _ _ _ _ _ => (pe_ifExp (pt_cmpR op_eq (pv 5) (pv 2) (nomark _)) (pv 1) (pv 5))))
      (pss_one (ps_ret (rf_call (ok_rebuilt T r) hr T.g_rebuilt T.k_rebuilt (pa_cons (pv 0) (pa_cons (rf_prop (pv 0) (T.cl_N r) (T.p_N_size r) (ok_Network_size T r) hr) (pa_cons (pv 4) (pa_cons (rf_prop (pv 0) (T.cl_N r) (T.p_N_outputs r) (ok_Network_outputs T r) hr) pa_nil)))))))))))), ?_⟩
      refine ⟨_, rfl, a, dx, _, rfl, h1, rfl, _, rfl, a, M, u, rfl, hnet, a1, a2, ?_⟩
      refine ⟨_, rfl, a, dx, _, rfl, h1, rfl, _, rfl, a, M, l, rfl, hnet, a3, a4, ?_⟩
      refine ⟨_, rfl, a, dx, _, rfl, h1, a, M, rfl, hnet, _, rfl, a, dx, _, rfl, h1, a, M, rfl, hnet, fun j2 hj2 => ?_⟩
      refine ⟨r, M.n, j2, M.cs, rfl, hM.hi, hM.many, hj2, hM.cells, fun H1 b as s1 hb rel => ?_⟩
      have hnet1 := NetAt.mono s1 hnet
      have hlen := ords_len M.n M.cs
      have gu : (ords M.n M.cs)[u]? = some ((ords M.n M.cs).getD u []) := by rw [List.getD_eq_getElem?_getD, List.getElem?_eq_getElem (by omega)]; rfl
      have gl : (ords M.n M.cs)[l]? = some ((ords M.n M.cs).getD l []) := by rw [List.getD_eq_getElem?_getD, List.getElem?_eq_getElem (by omega)]; rfl
      obtain ⟨au, hau, ou⟩ := rel.get gu
      obtain ⟨al, hal, ol⟩ := rel.get gl
      obtain ⟨d1, t1, iu, tu⟩ := id ou
      obtain ⟨d2, t2, il, tl⟩ := id ol
      refine ⟨_, rfl, _, rfl, a, dx, _, rfl, s1 _ _ h1, a, M, rfl, hnet1, _, _, rfl, rfl, _, rfl, ?_⟩
      rw [decide_eq_false (by omega)]
      refine iteF ⟨_, rfl, _, rfl, _, _, rfl, rfl, _, rfl, ?_⟩
      rw [decide_eq_false (by omega)]
      refine iteF ?_
      refine ⟨_, rfl, _, rfl, b, _, (u : Int), _, rfl, rfl, isL hb, atI_nat (get_refs hau), ?_⟩
      refine ⟨_, rfl, _, rfl, b, _, (l : Int), _, rfl, rfl, isL hb, atI_nat (get_refs hal), ?_⟩
      refine ⟨au, d1, _, al, d2, _, rfl, rfl, iu, il, au, al, _, _, rfl, ou, ol, _, rfl, _, rfl, ?_⟩
      rw [decide_eq_true a7]
      refine iteF ?_
      -- stands
      refine ⟨_, rfl, a, M, rfl, hnet1, hM, fun L hL => ?_⟩
      have s2' := Same.new (o := .lst (nInts ((List.range (M.n + 1 + M.cs.length - low r)).map fun i => low r + i))) hL
      have hL2 : upd H1 L (.lst (nInts ((List.range (M.n + 1 + M.cs.length - low r)).map fun i => low r + i))) L = some (.lst (nInts ((List.range (M.n + 1 + M.cs.length - low r)).map fun i => low r + i))) := upd_same
      generalize upd H1 L (.lst (nInts ((List.range (M.n + 1 + M.cs.length - low r)).map fun i => low r + i))) = H2 at s2' hL2 ⊢
      have s2 := s1.trans s2'
      refine ⟨L, rfl, ⟨_, isL hL2⟩, fun S hS => ?_⟩
      refine dc_map (items := (List.range (M.n + 1 + M.cs.length - low r)).map fun i => low r + i) hS (by
        have w := walk_list (K := K) (a := L) (xs := nInts ((List.range (M.n + 1 + M.cs.length - low r)).map fun i => low r + i))
        rwa [nInts_len] at w) (stnd l u) (by simp; exact sz7 (by omega)) (fun H3 s3 => Same.sql s3 (isL hL2)) (fun i x ex H3 s3 Kz hy v H' y => ?_) (fun kn H3 s3 hS3 hlk hk => ?_)
      · obtain ⟨rfl, hx⟩ := y
        obtain ⟨o', ho', rfl⟩ := nInts_get hx
        rw [ex] at ho'
        cases ho'
        have z := hy _ (Same.refl _)
        refine ⟨rfl, _, rfl, _, rfl, _, rfl, rfl, _, rfl, ?_⟩
        rw [dInt]
        unfold stnd at z
        by_cases h : x = l
        · rw [decide_eq_true (by omega)]
          rw [if_pos h] at z
          exact iteT ⟨_, rfl, z⟩
        · rw [decide_eq_false (by omega)]
          rw [if_neg h] at z
          exact iteF ⟨_, rfl, z⟩
      have s3' := s2.trans s3
      have hnet3 := NetAt.mono s3' hnet
      refine ⟨_, rfl, _, rfl, a, dx, _, rfl, s3' _ _ h1, a, M, rfl, hnet3, _, rfl, _, rfl, a, dx, _, rfl, s3' _ _ h1, a, M, rfl, hnet3, fun e5 he5 => ?_⟩
      refine ⟨a, S, e5, M, kn, l, u, rfl, hnet3, hM, he5, hS3, fun v hv => hk v (List.mem_map.mpr ⟨v - low r, List.mem_range.mpr ?_, ?_⟩), ⟨a5, a4, a1, a6⟩, fun x H' s' n o => q x H' (s3'.trans s') (s3'.free n) o⟩
      · have := hv.2; unfold top1 at this; have := hv.1; omega
      · have := hv.1; omega
    · cases hdone
end
end Cp
/-! edits. -/
namespace Cp
open PySem PySem.Spec PyProof.Rows L2
def DeedAt (K : PySem.W.Frag) (H : Hp) (e : Addr) : Deed → Prop
  | .rewire w i v => ∃ p, SqT K H e [.str "rewire", .ref p, .int (v : Nat)] ∧ WireAt K H p w i
  | .add u l => SqT K H e [.str "add", .int (u : Nat), .int (l : Nat)]
  | .drop k => SqT K H e [.str "drop", .int k]
  | .merge u l => SqT K H e [.str "merge", .int (u : Nat), .int (l : Nat)]
  | .change ns => ∃ p, SqT K H e [.str "change", .ref p] ∧ (SqL K H p (nInts ns) ∨ SqT K H p (nInts ns))
theorem DeedAt.mono {K : PySem.W.Frag} {H H' : Hp} {e : Addr} {d : Deed} (s : Same H H') (h : DeedAt K H e d) : DeedAt K H' e d := by
  cases d with
  | rewire w i v => exact let ⟨p, h1, h2⟩ := h; ⟨p, Same.sqt s h1, Same.sqt s h2⟩
  | add u l => exact Same.sqt s h
  | drop k => exact Same.sqt s h
  | merge u l => exact Same.sqt s h
  | change ns => exact let ⟨p, h1, h2⟩ := h; ⟨p, Same.sqt s h1, h2.imp (Same.sql s) (Same.sqt s)⟩
theorem DeedAt.shape {K : PySem.W.Frag} {H : Hp} {e : Addr} {d : Deed} (h : DeedAt K H e d) : ∃ (w : Str) (xs : List V), SqT K H e (.str w :: xs) ∧ (w, ((xs.length + 1 : Nat) : Int)) ∈ ([("rewire", 3), ("add", 3), ("drop", 2), ("merge", 3), ("change", 2)] : List (Str × Int)) ∧ xs.length ≤ 5 := by
  cases d with
  | rewire w i v => exact let ⟨p, h1, h2⟩ := h; ⟨_, _, h1, by simp, by simp⟩
  | add u l => exact ⟨_, _, h, by simp, by simp⟩
  | drop k => exact ⟨_, _, h, by simp, by simp⟩
  | merge u l => exact ⟨_, _, h, by simp, by simp⟩
  | change ns => exact let ⟨p, h1, h2⟩ := h; ⟨_, _, h1, by simp, by simp⟩
section
variable {P : Program} {w : World} {K : PySem.W.Frag} {mg : Str → Option Value} {base : Heap}
def spIsEdit (K : PySem.W.Frag) : Sp := fun vs H Q _ => ∃ (e : Addr) (d : Deed), vs = [.ref e] ∧ DeedAt K H e d ∧ Q (.bl true) H
theorem sc_is_edit : FnScope ["value"] ["value"] (defScope s_is_edit) := ⟨rfl, rfl, rfl, by decide +kernel, rfl, by decide +kernel, by decide +kernel⟩
theorem ok_is_edit (T : Txt w K mg) : FnR P w K mg base CX0 1 (gA "is_edit" K) (spIsEdit K) := by
  obtain ⟨fd, F⟩ := T.f_is_edit
  refine mkR F sc_is_edit (fun _ _ _ _ _ _ us hl => match us, hl with | [_], _ => rfl) (fun vs H Q E h => ?_) (fun cdv A outer s H vs Q E hr h => ?_)
  · obtain ⟨e, d, rfl, _⟩ := h
    rfl
  · obtain ⟨e, d, rfl, hd, q⟩ := h
    have nd := sc_is_edit.nd
    obtain ⟨es, n, hD⟩ := T.parts.2
    obtain ⟨wd, xs, h1, h2, h3⟩ := hd.shape
    have w0 : atI (V.str wd :: xs) 0 = some (.str wd) := atI_nat (i := 0) rfl
    refine ⟨_, (pss_cons (ps_if (PW.pt (pw_or (pt_not (pt_val (pe_callB call_isi (by rfl) T.b_isinstance (by decide +kernel) (pa_cons (pv 0) (pa_cons (pe_bltn (v := .ty "tuple") (by rfl) T.b_tuple (by decide +kernel) rfl) pa_nil))))) (pw_or (pt_cmpR op_eq (pe_callB call_len (by rfl) T.b_len (by decide +kernel) (pa_cons (pv 0) pa_nil)) pe_int (nomark _)) (pw_or1 (pt_not (pt_val (pe_callB call_isi (by rfl) T.b_isinstance (by decide +kernel) (pa_cons (pe_ix ix_tup (pv 0) pe_int (fun _ _ => rfl)) (pa_cons (pe_bltn (v := .ty "str") (by rfl) T.b_str (by decide +kernel) rfl) pa_nil))))))))) (pss_one (ps_ret pe_bl)) pss_nil)
      (pss_one (ps_ret (pe_cmpR op_eq (pe_callB call_len (by rfl) T.b_len (by decide +kernel) (pa_cons (pv 0) pa_nil)) (pe_kdget2 hD (pe_gr T.parts.1) (pe_ix ix_tup (pv 0) pe_int (fun _ _ => rfl)) pe_int m2_here) (nomark _))))), ?_⟩
    refine ⟨_, rfl, _, _, _, _, true, rfl, .ty "tuple", tyx_tup h1, kit_ty (by decide +kernel), true, rfl, iteF ?_⟩
    refine ⟨_, rfl, _, xs.length + 1, rfl, .inr ⟨_, h1, rfl⟩, rfl, _, rfl, ?_⟩
    rw [dInt, decide_eq_false (by omega)]
    refine iteF ?_
    refine ⟨_, rfl, _, _, _, _, rfl, rfl, h1, w0, _, _, _, _, true, rfl, .ty "str", .base (.str _), kit_ty (by decide +kernel), true, rfl, iteF ?_⟩
    refine ⟨_, rfl, _, xs.length + 1, rfl, .inr ⟨_, h1, rfl⟩, ?_⟩
    obtain ⟨u, hu1, hu2⟩ := T.partv _ h2
    refine ⟨_, rfl, _, _, _, _, rfl, rfl, h1, w0, wd, some u, rfl, hu1, fun u' eu => ?_, fun z => by cases z⟩
    cases eu
    refine ⟨_, hu2, rfl, ?_⟩
    show Q (.bl (decide (V.int ((xs.length + 1 : Nat) : Int) = V.int ((xs.length + 1 : Nat) : Int)))) H
    rw [decide_eq_true rfl]
    exact q
def spEdited (K : PySem.W.Frag) (r : Bool) : Sp := fun vs H Q _ => ∃ (a e : Addr) (M M' : Net) (d : Deed), vs = [.ref a, .ref e] ∧ NetAt K r H a M ∧ NetOk r M ∧ DeedAt K H e d ∧ done r M d = some M' ∧ ∀ x H', Same H H' → H x = none → NetAt K r H' x M' → Q (.ref x) H'
theorem sc_edited : FnScope ["net", "edit", "word", "parts"] ["net", "edit"] (defScope s_edited) := ⟨rfl, rfl, rfl, by decide +kernel, rfl, by decide +kernel, by decide +kernel⟩
theorem ok_edited (T : Txt w K mg) (r : Bool) : FnR P w K mg base CX0 9 (gA "edited" K) (spEdited K r) := by
  obtain ⟨fd, F⟩ := T.f_edited
  refine mkR F sc_edited (fun _ _ _ _ _ _ us hl => match us, hl with | [_, _], _ => rfl) (fun vs H Q E h => ?_) (fun cdv A outer s H vs Q E hr h => ?_)
  · obtain ⟨a, e, M, M', d, rfl, _⟩ := h
    rfl
  · obtain ⟨a, e, M, M', d, rfl, hnet, hM, hd, hdone, q⟩ := h
    have nd := sc_edited.nd
    obtain ⟨hM', hn'⟩ := done_ok hM hdone
    obtain ⟨dx, j, e0, hd0, h1, _⟩ := id hnet
    refine ⟨_, (pss_cons (ps_asg (pv 1) (pg_star1 rfl (pg_name (i := 2) nd rfl (Or.inl rfl)) (pg_name (i := 3) nd rfl (Or.inl rfl))))
      (pss_cons (ps_if (pt_cmpR op_eq (pv 2) pe_str (nomark _)) (pss_one (ps_ret (rf_callS (ok_rewired T r) hr T.g_rewired T.k_rewired (pa_cons (pv 0) (pa_star0 (pv 3) pa_nil))))) pss_nil)
      (pss_cons (ps_if (pt_cmpR op_eq (pv 2) pe_str (nomark _)) (pss_one (ps_ret (rf_callS (ok_with_cell T r) hr T.g_with_cell T.k_with_cell (pa_cons (pv 0) (pa_star0 (pv 3) pa_nil))))) pss_nil)
      (pss_cons (ps_if (pt_cmpR op_eq (pv 2) pe_str (nomark _)) (pss_one (ps_ret (rf_callS (ok_without_cell T r) hr T.g_without_cell T.k_without_cell (pa_cons (pv 0) (pa_star0 (pv 3) pa_nil))))) pss_nil)
      (pss_cons (ps_if (pt_cmpR op_eq (pv 2) pe_str (nomark _)) (pss_one (ps_ret (rf_callS (ok_merge T r) hr T.g_merge T.k_merge (pa_cons (pv 0) (pa_star0 (pv 3) pa_nil))))) pss_nil)
      (pss_one (ps_ret (rf_callS (ok_of_kind T r) hr T.g_of_kind T.k_of_kind (pa_cons (pv 0) (pa_cons (rf_prop (pv 0) (T.cl_N r) (T.p_N_size r) (ok_Network_size T r) hr) (pa_cons (rf_prop (pv 0) (T.cl_N r) (T.p_N_cells r) (ok_Network_cells T r) hr) (pa_star0 (pv 3) pa_nil)))))))))))), ?_⟩
    cases d with
    | rewire wk i v =>
      obtain ⟨p, g1, g2⟩ := hd
      refine ⟨_, rfl, e, _, _, rfl, g1, by simp, fun D hD => ?_⟩
      have s1 := Same.new (o := .lst [.ref p, .int (v : Nat)]) hD
      refine ⟨_, rfl, rfl, _, rfl, ite_t (by decide +kernel) ?_⟩
      refine ⟨_, rfl, _, rfl, D, _, rfl, .inr (isL upd_same), a, p, M, M', wk, i, v, rfl, NetAt.mono s1 hnet, hM, Same.sqt s1 g2, hdone, fun x H' s' n o => q x H' (s1.trans s') (s1.free n) o⟩
    | add u l =>
      refine ⟨_, rfl, e, _, _, rfl, hd, by simp, fun D hD => ?_⟩
      have s1 := Same.new (o := .lst [.int (u : Nat), .int (l : Nat)]) hD
      refine ⟨_, rfl, rfl, _, rfl, ite_f (by decide +kernel) ?_⟩
      refine ⟨_, rfl, rfl, _, rfl, ite_t (by decide +kernel) ?_⟩
      refine ⟨_, rfl, _, rfl, D, _, rfl, .inr (isL upd_same), a, M, M', u, l, rfl, NetAt.mono s1 hnet, hM, hdone, fun x H' s' n o => q x H' (s1.trans s') (s1.free n) o⟩
    | drop k =>
      refine ⟨_, rfl, e, _, _, rfl, hd, by simp, fun D hD => ?_⟩
      have s1 := Same.new (o := .lst [.int k]) hD
      refine ⟨_, rfl, rfl, _, rfl, ite_f (by decide +kernel) ?_⟩
      refine ⟨_, rfl, rfl, _, rfl, ite_f (by decide +kernel) ?_⟩
      refine ⟨_, rfl, rfl, _, rfl, ite_t (by decide +kernel) ?_⟩
      refine ⟨_, rfl, _, rfl, D, _, rfl, .inr (isL upd_same), a, M, M', k, rfl, NetAt.mono s1 hnet, hM, hdone, fun x H' s' n o => q x H' (s1.trans s') (s1.free n) o⟩
    | merge u l =>
      refine ⟨_, rfl, e, _, _, rfl, hd, by simp, fun D hD => ?_⟩
      have s1 := Same.new (o := .lst [.int (u : Nat), .int (l : Nat)]) hD
      refine ⟨_, rfl, rfl, _, rfl, ite_f (by decide +kernel) ?_⟩
      refine ⟨_, rfl, rfl, _, rfl, ite_f (by decide +kernel) ?_⟩
      refine ⟨_, rfl, rfl, _, rfl, ite_f (by decide +kernel) ?_⟩
      refine ⟨_, rfl, rfl, _, rfl, ite_t (by decide +kernel) ?_⟩
      refine ⟨_, rfl, _, rfl, D, _, rfl, .inr (isL upd_same), a, M, M', u, l, rfl, NetAt.mono s1 hnet, hM, hdone, fun x H' s' n o => q x H' (s1.trans s') (s1.free n) o⟩
    | change ns =>
      obtain ⟨p, g1, g2⟩ := hd
      refine ⟨_, rfl, e, _, _, rfl, g1, by simp, fun D hD => ?_⟩
      have s1 := Same.new (o := .lst [.ref p]) hD
      refine ⟨_, rfl, rfl, _, rfl, ite_f (by decide +kernel) ?_⟩
      refine ⟨_, rfl, rfl, _, rfl, ite_f (by decide +kernel) ?_⟩
      refine ⟨_, rfl, rfl, _, rfl, ite_f (by decide +kernel) ?_⟩
      refine ⟨_, rfl, rfl, _, rfl, ite_f (by decide +kernel) ?_⟩
      have hnet1 := NetAt.mono s1 hnet
      simp only [done] at hdone
      split at hdone
      · cases hdone
        refine ⟨_, rfl, _, rfl, a, dx, _, rfl, s1 _ _ h1, a, M, rfl, hnet1, _, rfl, a, dx, _, rfl, s1 _ _ h1, a, M, rfl, hnet1, fun j2 hj2 => ?_⟩
        refine ⟨_, rfl, D, _, rfl, .inr (isL upd_same), a, j2, p, M, ⟨M.n, M.cs, ns⟩, rfl, hnet1, CellsT.any hj2, g2.imp (Same.sql s1) (Same.sqt s1), hM', fun x H' s' n o => q x H' (s1.trans s') (s1.free n) o⟩
      · cases hdone
def spRecd (K : PySem.W.Frag) : Sp := fun vs H Q _ => ∃ (e : Addr) (d : Deed), vs = [.ref e] ∧ DeedAt K H e d ∧ ∀ v H', Same H H' → Q v H'
theorem sc_recorded : FnScope ["edit"] ["edit"] (defScope s_recorded) := ⟨rfl, rfl, rfl, by decide +kernel, rfl, by decide +kernel, by decide +kernel⟩
theorem ok_recorded (T : Txt w K mg) : FnR P w K mg base CX0 1 (gA "recorded" K) (spRecd K) := by
  obtain ⟨fd, F⟩ := T.f_recorded
  refine mkR F sc_recorded (fun _ _ _ _ _ _ us hl => match us, hl with | [_], _ => rfl) (fun vs H Q E h => ?_) (fun cdv A outer s H vs Q E hr h => ?_)
  · obtain ⟨e, d, rfl, _⟩ := h
    rfl
  · obtain ⟨e, d, rfl, hd, q⟩ := h
    have nd := sc_recorded.nd
    refine ⟨_, (pss_one (ps_ret (pe_ifExp (pt_cmpR op_eq (pe_ix ix_tup (pv 0) pe_int (fun _ _ => rfl)) pe_str (nomark _)) (pe_tup (pa_cons pe_str (pa_cons (pe_callTy call_tuple_of (by rfl) T.b_tuple (by decide +kernel) (pa_cons (pe_ix ix_tup (pv 0) pe_int (fun _ _ => rfl)) pa_nil)) pa_nil))) (pv 0)))), ?_⟩
    cases d with
    | rewire wk i v =>
      obtain ⟨p, g1, g2⟩ := hd
      exact ⟨_, rfl, _, _, 0, _, rfl, rfl, g1, rfl, rfl, _, rfl, ite_f (by decide +kernel) ⟨_, rfl, q _ _ (Same.refl _)⟩⟩
    | add u l => exact ⟨_, rfl, _, _, 0, _, rfl, rfl, hd, rfl, rfl, _, rfl, ite_f (by decide +kernel) ⟨_, rfl, q _ _ (Same.refl _)⟩⟩
    | drop k => exact ⟨_, rfl, _, _, 0, _, rfl, rfl, hd, rfl, rfl, _, rfl, ite_f (by decide +kernel) ⟨_, rfl, q _ _ (Same.refl _)⟩⟩
    | merge u l => exact ⟨_, rfl, _, _, 0, _, rfl, rfl, hd, rfl, rfl, _, rfl, ite_f (by decide +kernel) ⟨_, rfl, q _ _ (Same.refl _)⟩⟩
    | change ns =>
      obtain ⟨p, g1, g2⟩ := hd
      refine ⟨_, rfl, _, _, 0, _, rfl, rfl, g1, rfl, rfl, _, rfl, ite_t (by decide +kernel) ?_⟩
      refine ⟨_, rfl, e, _, 1, _, rfl, rfl, g1, rfl, p, nInts ns, rfl, ?_⟩
      rcases g2 with g2 | g2
      · refine .inl ⟨g2, fun t ht => ⟨by show 2 ≤ sizeLine; decide, fun u hu => q _ _ ((Same.new ht).trans (Same.new hu))⟩⟩
      · refine .inr ⟨g2, by show 2 ≤ sizeLine; decide, fun u hu => q _ _ (Same.new hu)⟩
def chg (M M' : Net) (lo : Nat) : List Nat := ((List.range M.os.length).filter fun i => decide ((outOrds M).getD i [] ≠ (outOrds M').getD i [])).map fun i => lo + i
def spChanged (K : PySem.W.Frag) (r : Bool) : Sp := fun vs H Q _ => ∃ (a b : Addr) (M M' : Net), vs = [.ref a, .ref b] ∧ NetAt K r H a M ∧ NetOk r M ∧ NetAt K r H b M' ∧ NetOk r M' ∧ M'.n = M.n ∧ ∀ H' p, Same H H' → SqT K H' p (nInts (chg M M' (low r))) → Q (.ref p) H'
theorem sc_changed_outputs : FnScope ["net", "later", "pairs", "index", "one", "other"] ["net", "later"] (defScope s_changed_outputs) := ⟨rfl, rfl, rfl, by decide +kernel, rfl, by decide +kernel, by decide +kernel⟩
theorem ok_changed_outputs (T : Txt w K mg) (r : Bool) : FnR P w K mg base CX0 8 (gA "changed_outputs" K) (spChanged K r) := by
  obtain ⟨fd, F⟩ := T.f_changed_outputs
  refine mkR F sc_changed_outputs (fun _ _ _ _ _ _ us hl => match us, hl with | [_, _], _ => rfl) (fun vs H Q E h => ?_) (fun cdv A outer s H vs Q E hr h => ?_)
  · obtain ⟨a, b, M, M', rfl, _⟩ := h
    rfl
  · obtain ⟨a, b, M, M', rfl, hnet, hM, hnet', hM', hn, q⟩ := h
    have nd := sc_changed_outputs.nd
    refine ⟨_, (pss_cons (ps_set (i := 2) nd rfl (Or.inl rfl) (pe_listZip rfl (by rfl) T.b_list (by rfl) T.b_zip (pa_cons (rf_prop (pv 0) (T.cl_N r) (T.p_N_orders r) (ok_Network_orders T r) hr) (pa_cons (rf_prop (pv 1) (T.cl_N r) (T.p_N_orders r) (ok_Network_orders T r) hr) pa_nil))))
      (pss_one (ps_ret (pe_callTy call_tuple_of (by rfl) T.b_tuple (by decide +kernel) (pa_cons (pe_lc (own := [("index", 3), ("one", 4), ("other", 5)]) (g := (gTup K 2 (gCons (gName 3) (gCons (gTup K 2 (gCons (gName 4) (gCons (gName 5) gNil))) gNil)))) (tt := (tTest (tOp (rOwnNe (gA "Order" K) (spOrdEq K)) (tVar 4) (tVar 5)))) (te := (tOp (rI0 fun i j => .int (i + j)) (tCon K (tVar 0) "LOWEST") (tVar 3))) rfl nd (pi_enum (by rfl) T.b_enumerate (pa_cons (pv 2) pa_nil)) (blkOk_by (N := ["net", "later", "pairs", "index", "one", "other"]) (sc := defScope s_changed_outputs) (by decide +kernel)) (fun _ _ _ _ _ => (pg_tup rfl (pgs_cons (pg_name (i := 3) nd rfl (Or.inl rfl)) (pgs_cons (pg_tup rfl (pgs_cons (pg_name (i := 4) nd rfl (Or.inl rfl)) (pgs_cons (pg_name (i := 5) nd rfl (Or.inl rfl)) pgs_nil))) pgs_nil)))) (fun _ _ _ _ _ => (pts_one (pt_cmpR (op_ownNe T.m_Order_eq T.ne_Order T.is_Order.cm (ok_Order_eq T) hr) (pv 4) (pv 5) (nomark _)))) (fun _ _ _ _ _ => (pe_op op_add (pe_con (pv 0) rfl) (pv 3)))) pa_nil))))), ?_⟩
    obtain ⟨dx, j, e, hd, h1, _⟩ := id hnet
    obtain ⟨dy, j', e', hd', h1', _⟩ := id hnet'
    obtain ⟨u3, c3⟩ := T.v_low r
    have hos := hM.outs
    have hos' := hM'.outs
    have hn24 := hM.hi
    have lo1 : (outOrds M).length = M.os.length := by simp [outOrds]
    have lo2 : (outOrds M').length = M.os.length := by simp [outOrds]; omega
    refine ⟨_, rfl, a, dx, _, rfl, h1, a, M, rfl, hnet, hM, fun H1 b1 as1 s1 hb1 r1 => ?_⟩
    have hnet1 := NetAt.mono s1 hnet'
    refine ⟨_, rfl, b, dy, _, rfl, s1 _ _ h1', b, M', rfl, hnet1, hM', fun H2 b2 as2 s2 hb2 r2 => ?_⟩
    have s12 := s1.trans s2
    have r1' := r1.imp fun _ _ z => OrdAt.mono s2 z
    have l1 := r1.1
    have l2 := r2.1
    refine ⟨b1, b2, _, _, rfl, Same.sqt s2 hb1, hb2, by simp; omega, by simp; omega, fun H3 p ts s3 hp hts rel => ?_⟩
    have s13 := s12.trans s3
    have lts : ts.length = M.os.length := by have := rel.1; simp at this; omega
    refine ⟨_, rfl, p, _, rfl, isL hts, fun D hD => ?_⟩
    refine lc_pure (items := List.range M.os.length) hD (w := by have w := walk_enum (K := K) (a := p) (xs := ts.map V.ref); rwa [List.length_map, lts, ← List.length_range (n := M.os.length)] at w)
      (fun i => decide ((outOrds M).getD i [] ≠ (outOrds M').getD i [])) (fun _ v i => v = .int ((low r + i : Nat) : Int)) (fun _ _ _ _ _ h => h) (by rw [List.length_range]; exact sz7 (by omega)) (fun H4 s4 => isL (s4 _ _ hts)) (fun i x ex H4 s4 Ky Kn hy hn2 v H' y => ?_) (fun acc H4 s4 hd4 rel4 => ?_)
    · obtain ⟨rfl, hi⟩ := range_get ex
      obtain ⟨T', i', q', rfl, hT, rfl, ei, hx⟩ := y
      obtain ⟨t, ht, rfl⟩ := refs_get hx
      cases ei
      have e1 : (outOrds M)[x]? = some ((outOrds M).getD x []) := by rw [List.getD_eq_getElem?_getD, List.getElem?_eq_getElem (by omega)]; rfl
      have e2 : (outOrds M')[x]? = some ((outOrds M').getD x []) := by rw [List.getD_eq_getElem?_getD, List.getElem?_eq_getElem (by omega)]; rfl
      obtain ⟨o1, ho1, k1⟩ := r1'.get e1
      obtain ⟨o2, ho2, k2⟩ := r2.get e2
      have ez : ((as1.map V.ref).zip (as2.map V.ref))[x]? = some (.ref o1, .ref o2) := by rw [List.getElem?_zip_eq_some]; exact ⟨get_refs ho1, get_refs ho2⟩
      have htt := rel.2 x t _ ht ez
      have sT : Same H4 (upd H4 T' (.tup [.int (x : Nat), .ref t])) := Same.new hT
      have s4T := (s3.trans s4).trans sT
      obtain ⟨d1, t1, i1, _⟩ := id (OrdAt.mono s4T k1)
      obtain ⟨d2, t2, i2, _⟩ := id (OrdAt.mono s4T k2)
      refine ⟨T', _, rfl, isT upd_same, rfl, _, _, rfl, _, _, rfl, ⟨t, _, rfl, isT (sT _ _ (s4 _ _ htt)), rfl, _, _, rfl, _, _, rfl, rfl, rfl, rfl, ?_⟩⟩
      refine ⟨_, rfl, _, rfl, o1, d1, _, o2, d2, _, rfl, rfl, i1, i2, o1, o2, _, _, rfl, OrdAt.mono s4T k1, OrdAt.mono s4T k2, _, rfl, _, rfl, ?_⟩
      by_cases he : (outOrds M).getD x [] = (outOrds M').getD x []
      · rw [decide_eq_true he]
        exact iteF (hn2 _ sT (decide_eq_false fun z => z he))
      · rw [decide_eq_false he]
        refine iteT ?_
        refine ⟨_, rfl, a, _, dx, _, _, u3, rfl, sT _ _ (s4 _ _ (s13 _ _ h1)), T.cl_N r, c3, rfl, _, rfl, _, _, rfl, rfl, ?_⟩
        refine hy _ _ sT ?_ (decide_eq_true he)
        show V.int _ = V.int _
        rw [Int.natCast_add]
    · refine ⟨D, acc, rfl, .inl ⟨isL hd4, fun t ht => q _ t ((s13.trans s4).trans (Same.new ht)) (isT ?_)⟩⟩
      rw [upd_same, rel_map rel4]
      simp [chg, nInts]
end
end Cp
/-! The class Bench. -/
namespace Cp
open PySem PySem.Spec PyProof.Rows L2
/-- the attributes of a bench -/
def bf (a p q d : Addr) : List (Str × V) := [("net", .ref a), ("past", .ref p), ("ahead", .ref q), ("marked", .ref d)]
def BAt (K : PySem.W.Frag) (H : Hp) (b dx a p q d : Addr) : Prop := H b = some (.ins (gA "Bench" K) dx (bf a p q d))
theorem unf_bf {K : PySem.W.Frag} {dx a p q d : Addr} : fixd (.ins (gA "Bench" K) dx (bf a p q d)) = false := by
  show ((bf a p q d).lookup ("past" : Str)).isNone = false
  rfl
section
variable {P : Program} {w : World} {K : PySem.W.Frag} {mg : Str → Option Value} {base : Heap}
def spBInit (K : PySem.W.Frag) (r : Bool) : Sp := fun vs H Q _ => ∃ (x dx a : Addr) (M : Net), vs = [.ref x, .ref a] ∧ H x = some (.ins (gA "Bench" K) dx []) ∧ NetAt K r H a M ∧ NetOk r M ∧
  ∀ H' a1 p q d, SameX [x] H H' → BAt K H' x dx a1 p q d → NetAt K r H' a1 M → H' p = some (.lst []) → H' q = some (.lst []) → p ≠ q → H' d = some (.dK []) → H p = none → H q = none → H d = none → Q .non H'
theorem sc_Bench_init : FnScope ["self", "net"] ["self", "net"] (defScope s_Bench_init) := ⟨rfl, rfl, rfl, by decide +kernel, rfl, by decide +kernel, by decide +kernel⟩
theorem ok_Bench_init (T : Txt w K mg) (r : Bool) : FnR P w K mg base CX0 7 (mA "Bench" "__init__" K) (spBInit K r) := by
  obtain ⟨fd, F⟩ := T.f_Bench_init
  refine mkR F sc_Bench_init (fun _ _ _ _ _ _ us hl => match us, hl with | [_, _], _ => rfl) (fun vs H Q E h => ?_) (fun cdv A outer s H vs Q E hr h => ?_)
  · obtain ⟨x, dx, a, M, rfl, _⟩ := h
    rfl
  · obtain ⟨x, dx, a, M, rfl, hx, hnet, hM, q⟩ := h
    have nd := sc_Bench_init.nd
    have cl := T.cl_Bench
    obtain ⟨dn, j, e, hd, h1, _⟩ := id hnet
    refine ⟨_, (pss_cons (ps_fld (pv 0) (rf_call (ok_of_kind T r) hr T.g_of_kind T.k_of_kind (pa_cons (pv 1) (pa_cons (rf_prop (pv 1) (T.cl_N r) (T.p_N_size r) (ok_Network_size T r) hr) (pa_cons (rf_prop (pv 1) (T.cl_N r) (T.p_N_cells r) (ok_Network_cells T r) hr) (pa_cons (rf_prop (pv 1) (T.cl_N r) (T.p_N_outputs r) (ok_Network_outputs T r) hr) pa_nil))))) rfl)
      (pss_cons (ps_fld (pv 0) (pe_lst pa_nil) rfl)
      (pss_cons (ps_fld (pv 0) (pe_lst pa_nil) rfl)
      (pss_one (ps_fld (pv 0) pe_dnewK rfl))))), ?_⟩
    refine ⟨_, rfl, _, rfl, a, dn, _, rfl, h1, a, M, rfl, hnet, _, rfl, a, dn, _, rfl, h1, a, M, rfl, hnet, fun j2 hj2 => ?_⟩
    refine ⟨_, rfl, a, dn, _, rfl, h1, a, M, rfl, hnet, fun e2 he2 => ?_⟩
    refine ⟨a, j2, e2, M, M, rfl, hnet, CellsT.any hj2, .inr he2, hM, fun a1 H1 s1 n1 hnet1 => ?_⟩
    refine ⟨_, rfl, x, _, dx, _, rfl, s1 _ _ hx, cl, T.n_Bench_net, by simp, ?_⟩
    have hxa : a1 ≠ x := fun z => by rw [z, hx] at n1; cases n1
    generalize hH2 : upd H1 x (.ins (gA "Bench" K) dx (putF "net" (.ref a1) [])) = H2
    have hx2 : H2 x = some (.ins (gA "Bench" K) dx [("net", .ref a1)]) := by rw [← hH2, upd_same]; rfl
    have s2' : SameX [x] H1 H2 := by rw [← hH2]; exact (SameX.refl _).at_ (by simp)
    have s2 : SameX [x] H H2 := (SameX.of s1).trans s2'
    refine ⟨by show 0 ≤ sizeLine; decide, fun p hp => ?_⟩
    refine ⟨_, rfl, x, _, dx, _, rfl, Same.new hp _ _ hx2, cl, T.n_Bench_past, by simp, ?_⟩
    generalize hH3 : upd (upd H2 p (.lst [])) x (.ins (gA "Bench" K) dx (putF "past" (.ref p) [("net", .ref a1)])) = H3
    have hpx : p ≠ x := fun z => by rw [z, hx2] at hp; cases hp
    have hx3 : H3 x = some (.ins (gA "Bench" K) dx [("net", .ref a1), ("past", .ref p)]) := by rw [← hH3, upd_same]; rfl
    have hp3 : H3 p = some (.lst []) := by rw [← hH3, upd_ne hpx, upd_same]
    have s3' : SameX [x] H2 H3 := by rw [← hH3]; exact (SameX.of (Same.new hp)).at_ (by simp)
    refine ⟨by show 0 ≤ sizeLine; decide, fun q1 hq => ?_⟩
    refine ⟨_, rfl, x, _, dx, _, rfl, Same.new hq _ _ hx3, cl, T.n_Bench_ahead, by simp, ?_⟩
    generalize hH4 : upd (upd H3 q1 (.lst [])) x (.ins (gA "Bench" K) dx (putF "ahead" (.ref q1) [("net", .ref a1), ("past", .ref p)])) = H4
    have hqx : q1 ≠ x := fun z => by rw [z, hx3] at hq; cases hq
    have hpq : p ≠ q1 := fun z => by rw [← z, hp3] at hq; cases hq
    have hx4 : H4 x = some (.ins (gA "Bench" K) dx [("net", .ref a1), ("past", .ref p), ("ahead", .ref q1)]) := by rw [← hH4, upd_same]; rfl
    have hq4 : H4 q1 = some (.lst []) := by rw [← hH4, upd_ne hqx, upd_same]
    have hp4 : H4 p = some (.lst []) := by rw [← hH4, upd_ne hpx, upd_ne hpq]; exact hp3
    have s4' : SameX [x] H3 H4 := by rw [← hH4]; exact (SameX.of (Same.new hq)).at_ (by simp)
    intro d hd2
    refine ⟨_, rfl, x, _, dx, _, rfl, Same.new hd2 _ _ hx4, cl, T.n_Bench_marked, by simp, ?_⟩
    generalize hH5 : upd (upd H4 d (.dK [])) x (.ins (gA "Bench" K) dx (putF "marked" (.ref d) [("net", .ref a1), ("past", .ref p), ("ahead", .ref q1)])) = H5
    have hdx : d ≠ x := fun z => by rw [z, hx4] at hd2; cases hd2
    have hx5 : H5 x = some (.ins (gA "Bench" K) dx (bf a1 p q1 d)) := by rw [← hH5, upd_same]; rfl
    have hd5 : H5 d = some (.dK []) := by rw [← hH5, upd_ne hdx, upd_same]
    have s5' : SameX [x] H4 H5 := by rw [← hH5]; exact (SameX.of (Same.new hd2)).at_ (by simp)
    have s25 := (s3'.trans s4').trans s5'
    have s15 := s2'.trans s25
    obtain ⟨dm, jm, em, hm, g1, g2, g3, o, g4, g5⟩ := hnet1
    have hxH1 : H1 x = some (.ins (gA "Bench" K) dx []) := s1 _ _ hx
    have ne : ∀ c o, H1 c = some o → c ≠ x → H5 c = some o := fun c o ec hc => s15 _ _ (by simpa using hc) ec
    have free : ∀ c, c ≠ x → H5 c ≠ none → H1 c = none → H c = none := fun c _ _ h => s1.free h
    have n2 : ∀ c, c ≠ x → H2 c = none → H c = none := fun c hc h => by
      cases z : H c with
      | none => rfl
      | some o => have := s2 c o (by simpa using hc) z; rw [h] at this; cases this
    have n3 : ∀ c, c ≠ x → H3 c = none → H c = none := fun c hc h => by
      cases z : H c with
      | none => rfl
      | some o => have := (s2.trans s3') c o (by simpa using hc) z; rw [h] at this; cases this
    have n4 : ∀ c, c ≠ x → H4 c = none → H c = none := fun c hc h => by
      cases z : H c with
      | none => rfl
      | some o => have := ((s2.trans s3').trans s4') c o (by simpa using hc) z; rw [h] at this; cases this
    refine q H5 a1 p q1 d (s2.trans s25) hx5 ⟨dm, jm, em, hm, ne _ _ g1 hxa, cellsT_x g2 hxH1 s15, sqt_x g3 hxH1 s15, o, g4, ne _ _ g5 (ne_of g5 hxH1 (fun z => by cases z))⟩ (s5' _ _ (by simpa using hpx) hp4) (s5' _ _ (by simpa using hqx) hq4) hpq hd5 (n2 p hpx hp) (n3 q1 hqx hq) (n4 d hdx hd2)
def spBNet (K : PySem.W.Frag) (r : Bool) : Sp := fun vs H Q _ => ∃ (b dx a p q d : Addr) (M : Net), vs = [.ref b] ∧ BAt K H b dx a p q d ∧ NetAt K r H a M ∧ NetOk r M ∧ ∀ x H', Same H H' → H x = none → NetAt K r H' x M → Q (.ref x) H'
theorem sc_Bench_network : FnScope ["self"] ["self"] (defScope s_Bench_network) := ⟨rfl, rfl, rfl, by decide +kernel, rfl, by decide +kernel, by decide +kernel⟩
theorem ok_Bench_network (T : Txt w K mg) (r : Bool) : FnR P w K mg base CX0 7 (pA "Bench" "network" K) (spBNet K r) := by
  obtain ⟨fd, F⟩ := T.f_Bench_network
  refine mkR F sc_Bench_network (fun _ _ _ _ _ _ us hl => match us, hl with | [_], _ => rfl) (fun vs H Q E h => ?_) (fun cdv A outer s H vs Q E hr h => ?_)
  · obtain ⟨b, dx, a, p, q, d, M, rfl, _⟩ := h
    rfl
  · obtain ⟨b, dx, a, p, q1, d, M, rfl, hb, hnet, hM, q⟩ := h
    have nd := sc_Bench_network.nd
    have cl := T.cl_Bench
    obtain ⟨dn, j, e, hd, h1, _⟩ := id hnet
    refine ⟨_, (pss_one (ps_ret (rf_call (ok_of_kind T r) hr T.g_of_kind T.k_of_kind (pa_cons (pe_fld (pv 0) rfl) (pa_cons (rf_prop (pe_fld (pv 0) rfl) (T.cl_N r) (T.p_N_size r) (ok_Network_size T r) hr) (pa_cons (rf_prop (pe_fld (pv 0) rfl) (T.cl_N r) (T.p_N_cells r) (ok_Network_cells T r) hr) (pa_cons (rf_prop (pe_fld (pv 0) rfl) (T.cl_N r) (T.p_N_outputs r) (ok_Network_outputs T r) hr) pa_nil))))))), ?_⟩
    refine ⟨_, rfl, b, _, dx, _, _, rfl, hb, cl, T.n_Bench_net, rfl, ?_⟩
    refine ⟨_, rfl, b, _, dx, _, _, rfl, hb, cl, T.n_Bench_net, rfl, a, dn, _, rfl, h1, a, M, rfl, hnet, ?_⟩
    refine ⟨_, rfl, b, _, dx, _, _, rfl, hb, cl, T.n_Bench_net, rfl, a, dn, _, rfl, h1, a, M, rfl, hnet, fun j2 hj2 => ?_⟩
    refine ⟨_, rfl, b, _, dx, _, _, rfl, hb, cl, T.n_Bench_net, rfl, a, dn, _, rfl, h1, a, M, rfl, hnet, fun e2 he2 => ?_⟩
    exact ⟨a, j2, e2, M, M, rfl, hnet, CellsT.any hj2, .inr he2, hM, q⟩
end
end Cp
/-! Bench: settle, apply, undo, redo, mark, back_to. -/
namespace Cp
open PySem PySem.Spec PyProof.Rows L2
section
variable {P : Program} {w : World} {K : PySem.W.Frag} {mg : Str → Option Value} {base : Heap}
/-- what stands behind settle -/
def Settled (K : PySem.W.Frag) (r : Bool) (H H' : Hp) (b dx a p d c : Addr) (ps : List V) (ev : V) (M M' : Net) (q' vp t : Addr) : Prop :=
  SameX [b, p] H H' ∧ BAt K H' b dx c p q' d ∧ H' q' = some (.lst []) ∧ H q' = none ∧ H' p = some (.lst (ps ++ [.ref vp])) ∧ H' vp = some (.tup [ev, .ref a]) ∧ SqT K H' t (nInts (chg M M' (low r))) ∧ NetAt K r H' a M ∧ NetAt K r H' c M'
def spSettle (K : PySem.W.Frag) (r : Bool) : Sp := fun vs H Q _ => ∃ (b dx a p q d c : Addr) (ps : List V) (ev : V) (M M' : Net), vs = [.ref b, ev, .ref c] ∧ BAt K H b dx a p q d ∧ NetAt K r H a M ∧ NetOk r M ∧ NetAt K r H c M' ∧ NetOk r M' ∧ M'.n = M.n ∧ H p = some (.lst ps) ∧ ps.length ≤ 1000 ∧
  ∀ H' q' vp t, Settled K r H H' b dx a p d c ps ev M M' q' vp t → Q (.ref t) H'
theorem sc_Bench_settle : FnScope ["self", "edits", "later", "before"] ["self", "edits", "later"] (defScope s_Bench_settle) := ⟨rfl, rfl, rfl, by decide +kernel, rfl, by decide +kernel, by decide +kernel⟩
theorem ok_Bench_settle (T : Txt w K mg) (r : Bool) : FnR P w K mg base CX0 9 (mA "Bench" "settle" K) (spSettle K r) := by
  obtain ⟨fd, F⟩ := T.f_Bench_settle
  refine mkR F sc_Bench_settle (fun _ _ _ _ _ _ us hl => match us, hl with | [_, _, _], _ => rfl) (fun vs H Q E h => ?_) (fun cdv A outer s H vs Q E hr h => ?_)
  · obtain ⟨b, dx, a, p, q, d, c, ps, ev, M, M', rfl, _⟩ := h
    rfl
  · obtain ⟨b, dx, a, p, q1, d, c, ps, ev, M, M', rfl, hb, hnet, hM, hnet', hM', hn, hp, hps, q⟩ := h
    have nd := sc_Bench_settle.nd
    have cl := T.cl_Bench
    refine ⟨_, (pss_cons (ps_set (i := 3) nd rfl (Or.inl rfl) (pe_fld (pv 0) rfl))
      (pss_cons (ps_expr (pe_bm PySem.F.plainAttrs_list PySem.F.slot_list_append PySem.F.type_list_append mt_append (pe_fld (pv 0) rfl) (pa_cons (pe_tup (pa_cons (pv 1) (pa_cons (pv 3) pa_nil))) pa_nil)))
      (pss_cons (ps_fld (pv 0) (pe_lst pa_nil) rfl)
      (pss_cons (ps_fld (pv 0) (pv 2) rfl)
      (pss_one (ps_ret (rf_call (ok_changed_outputs T r) hr T.g_changed_outputs T.k_changed_outputs (pa_cons (pv 3) (pa_cons (pv 2) pa_nil))))))))), ?_⟩
    refine ⟨_, rfl, b, _, dx, _, _, rfl, hb, cl, T.n_Bench_net, rfl, ?_⟩
    refine ⟨_, rfl, b, _, dx, _, _, rfl, hb, cl, T.n_Bench_past, rfl, .inl ⟨rfl, _, isL hp⟩, _, rfl, _, rfl, by show 2 ≤ sizeLine; decide, fun v hv => ?_⟩
    have s1 := Same.new (o := .tup [ev, .ref a]) hv
    have hv1 : upd H v (.tup [ev, .ref a]) v = some (.tup [ev, .ref a]) := upd_same
    generalize upd H v (.tup [ev, .ref a]) = H1 at s1 hv1 ⊢
    refine ⟨p, ps, _, rfl, rfl, s1 _ _ hp, sz9 (by omega), ?_⟩
    have hpb : p ≠ b := ne_of hp hb (fun z => by cases z)
    have x2 : Ext H1 (upd H1 p (.lst (ps ++ [.ref v]))) := Ext.lst (s1 _ _ hp)
    have hp2 : upd H1 p (.lst (ps ++ [.ref v])) p = some (.lst (ps ++ [.ref v])) := upd_same
    have hb2 : BAt K (upd H1 p (.lst (ps ++ [.ref v]))) b dx a p q1 d := by unfold BAt; rw [upd_ne (Ne.symm hpb)]; exact s1 _ _ hb
    have s2 : SameX [b, p] H (upd H1 p (.lst (ps ++ [.ref v]))) := (SameX.of s1).at_ (by simp)
    have hv2 : upd H1 p (.lst (ps ++ [.ref v])) v = some (.tup [ev, .ref a]) := x2 _ _ hv1 rfl
    generalize upd H1 p (.lst (ps ++ [.ref v])) = H2 at x2 hp2 hb2 s2 hv2 ⊢
    refine ⟨by show 0 ≤ sizeLine; decide, fun q' hq' => ?_⟩
    have s3' := Same.new (o := .lst []) hq'
    have hq3 : upd H2 q' (.lst []) q' = some (.lst []) := upd_same
    have hqp : q' ≠ p := fun z => by rw [z, hp2] at hq'; cases hq'
    have hqb : q' ≠ b := fun z => by rw [z, hb2] at hq'; cases hq'
    have hqn : H q' = none := by
      cases z : H q' with
      | none => rfl
      | some o => have := s2 q' o (by simp; exact ⟨hqb, hqp⟩) z; rw [hq'] at this; cases this
    generalize upd H2 q' (.lst []) = H3 at s3' hq3 ⊢
    refine ⟨_, rfl, b, _, dx, _, rfl, s3' _ _ hb2, cl, T.n_Bench_ahead, by simp [bf], ?_⟩
    have x4 : Ext H3 (upd H3 b (.ins (gA "Bench" K) dx (putF "ahead" (.ref q') (bf a p q1 d)))) := Ext.unf (s3' _ _ hb2) unf_bf
    have hb4 : BAt K (upd H3 b (.ins (gA "Bench" K) dx (putF "ahead" (.ref q') (bf a p q1 d)))) b dx a p q' d := by unfold BAt; rw [upd_same]; rfl
    have s4 : SameX [b, p] H (upd H3 b (.ins (gA "Bench" K) dx (putF "ahead" (.ref q') (bf a p q1 d)))) := (s2.trans (SameX.of s3')).at_ (by simp)
    have hp4 : upd H3 b (.ins (gA "Bench" K) dx (putF "ahead" (.ref q') (bf a p q1 d))) p = some (.lst (ps ++ [.ref v])) := by rw [upd_ne hpb]; exact s3' _ _ hp2
    have hq4 : upd H3 b (.ins (gA "Bench" K) dx (putF "ahead" (.ref q') (bf a p q1 d))) q' = some (.lst []) := by rw [upd_ne hqb]; exact hq3
    generalize upd H3 b (.ins (gA "Bench" K) dx (putF "ahead" (.ref q') (bf a p q1 d))) = H4 at x4 hb4 s4 hp4 hq4 ⊢
    refine ⟨_, rfl, _, rfl, b, _, dx, _, rfl, hb4, cl, T.n_Bench_net, by simp [bf], ?_⟩
    have x5 : Ext H4 (upd H4 b (.ins (gA "Bench" K) dx (putF "net" (.ref c) (bf a p q' d)))) := Ext.unf hb4 unf_bf
    have hb5 : BAt K (upd H4 b (.ins (gA "Bench" K) dx (putF "net" (.ref c) (bf a p q' d)))) b dx c p q' d := by unfold BAt; rw [upd_same]; rfl
    have s5 : SameX [b, p] H (upd H4 b (.ins (gA "Bench" K) dx (putF "net" (.ref c) (bf a p q' d)))) := s4.at_ (by simp)
    have hp5 : upd H4 b (.ins (gA "Bench" K) dx (putF "net" (.ref c) (bf a p q' d))) p = some (.lst (ps ++ [.ref v])) := by rw [upd_ne hpb]; exact hp4
    have hq5 : upd H4 b (.ins (gA "Bench" K) dx (putF "net" (.ref c) (bf a p q' d))) q' = some (.lst []) := by rw [upd_ne hqb]; exact hq4
    generalize upd H4 b (.ins (gA "Bench" K) dx (putF "net" (.ref c) (bf a p q' d))) = H5 at x5 hb5 s5 hp5 hq5 ⊢
    have x25 : Ext H2 H5 := ((Same.ext s3').trans x4).trans x5
    have x5' : Ext H H5 := ((Same.ext s1).trans x2).trans x25
    refine ⟨_, rfl, _, rfl, a, c, M, M', rfl, Ext.net x5' hnet, hM, Ext.net x5' hnet', hM', hn, fun H6 t s6 ht => ?_⟩
    exact q H6 q' v t ⟨s5.trans (SameX.of s6), s6 _ _ hb5, s6 _ _ hq5, hqn, s6 _ _ hp5, s6 _ _ (x25 _ _ hv2 rfl), ht, NetAt.mono s6 (Ext.net x5' hnet), NetAt.mono s6 (Ext.net x5' hnet')⟩
def spMark (K : PySem.W.Frag) : Sp := fun vs H Q _ => ∃ (b dx a p q d : Addr) (kvs : List (Key × V)) (nm : Str), vs = [.ref b, .str nm] ∧ BAt K H b dx a p q d ∧ H d = some (.dK kvs) ∧ kvs.length ≤ 1000 ∧ Q .non (upd H d (.dK (putK kvs (.inr nm) (.ref a))))
theorem sc_Bench_mark : FnScope ["self", "name"] ["self", "name"] (defScope s_Bench_mark) := ⟨rfl, rfl, rfl, by decide +kernel, rfl, by decide +kernel, by decide +kernel⟩
theorem ok_Bench_mark (T : Txt w K mg) : FnR P w K mg base CX0 1 (mA "Bench" "mark" K) (spMark K) := by
  obtain ⟨fd, F⟩ := T.f_Bench_mark
  refine mkR F sc_Bench_mark (fun _ _ _ _ _ _ us hl => match us, hl with | [_, _], _ => rfl) (fun vs H Q E h => ?_) (fun cdv A outer s H vs Q E hr h => ?_)
  · obtain ⟨b, dx, a, p, q, d, kvs, nm, rfl, _⟩ := h
    rfl
  · obtain ⟨b, dx, a, p, q1, d, kvs, nm, rfl, hb, hd, hl, q⟩ := h
    have nd := sc_Bench_mark.nd
    have cl := T.cl_Bench
    refine ⟨_, (pss_one (ps_dput (hu_of hr) (pe_fld (pv 0) rfl) (pv 1) (pe_fld (pv 0) rfl) rfl)), ?_⟩
    refine ⟨_, rfl, b, _, dx, _, _, rfl, hb, cl, T.n_Bench_net, rfl, ?_⟩
    exact ⟨_, rfl, b, _, dx, _, _, rfl, hb, cl, T.n_Bench_marked, rfl, _, rfl, d, _, rfl, DPut.k (k := .inr nm) hd (sz9 (by omega)), q⟩
def spUndo (K : PySem.W.Frag) : Sp := fun vs H Q _ => ∃ (b dx a p q d a0 vp : Addr) (ps qs : List V) (ev : V), vs = [.ref b] ∧ BAt K H b dx a p q d ∧ H p = some (.lst (ps ++ [.ref vp])) ∧ SqT K H vp [ev, .ref a0] ∧ H q = some (.lst qs) ∧ p ≠ q ∧ ps.length ≤ 1000 ∧ qs.length ≤ 1000 ∧
  ∀ H' u, SameX [b, p, q] H H' → Ext H H' → BAt K H' b dx a0 p q d → H' p = some (.lst ps) → H' q = some (.lst (qs ++ [.ref u])) → H' u = some (.tup [ev, .ref a]) → Q ev H'
theorem sc_Bench_undo : FnScope ["self", "edits", "before"] ["self"] (defScope s_Bench_undo) := ⟨rfl, rfl, rfl, by decide +kernel, rfl, by decide +kernel, by decide +kernel⟩
theorem ok_Bench_undo (T : Txt w K mg) : FnR P w K mg base CX0 1 (mA "Bench" "undo" K) (spUndo K) := by
  obtain ⟨fd, F⟩ := T.f_Bench_undo
  refine mkR F sc_Bench_undo (fun _ _ _ _ _ _ us hl => match us, hl with | [_], _ => rfl) (fun vs H Q E h => ?_) (fun cdv A outer s H vs Q E hr h => ?_)
  · obtain ⟨b, dx, a, p, q, d, a0, vp, ps, qs, ev, rfl, _⟩ := h
    rfl
  · obtain ⟨b, dx, a, p, q1, d, a0, vp, ps, qs, ev, rfl, hb, hp, hv, hq, hpq, hl1, hl2, q⟩ := h
    have nd := sc_Bench_undo.nd
    have cl := T.cl_Bench
    refine ⟨_, (pss_cons (ps_if (pt_cmpR (op_eq0 hr.units) (pe_fld (pv 0) rfl) (pe_lst pa_nil) (nomark _)) (pss_one ps_never) pss_nil)
      (pss_cons (ps_asg (pe_bm0 PySem.F.plainAttrs_list PySem.F.slot_list_pop PySem.F.type_list_pop mt_pop (pe_fld (pv 0) rfl)) (pg_tup rfl (pgs_cons (pg_name (i := 1) nd rfl (Or.inl rfl)) (pgs_cons (pg_name (i := 2) nd rfl (Or.inl rfl)) pgs_nil))))
      (pss_cons (ps_expr (pe_bm PySem.F.plainAttrs_list PySem.F.slot_list_append PySem.F.type_list_append mt_append (pe_fld (pv 0) rfl) (pa_cons (pe_tup (pa_cons (pv 1) (pa_cons (pe_fld (pv 0) rfl) pa_nil))) pa_nil)))
      (pss_cons (ps_fld (pv 0) (pv 2) rfl)
      (pss_one (ps_ret (pv 1))))))), ?_⟩
    have hpb : p ≠ b := ne_of hp hb (fun z => by cases z)
    have hqb : q1 ≠ b := ne_of hq hb (fun z => by cases z)
    refine ⟨_, rfl, b, _, dx, _, _, rfl, hb, cl, T.n_Bench_past, rfl, by show 0 ≤ sizeLine; decide, fun e0 he0 => ?_⟩
    have s1 := Same.new (o := .lst []) he0
    have he1 : upd H e0 (.lst []) e0 = some (.lst []) := upd_same
    generalize upd H e0 (.lst []) = H1 at s1 he1 ⊢
    refine ⟨p, e0, _, rfl, rfl, .inl ⟨isL (s1 _ _ hp), isL he1⟩, _, rfl, ite_f (by cases ps <;> rfl) ?_⟩
    refine ⟨_, rfl, b, _, dx, _, _, rfl, s1 _ _ hb, cl, T.n_Bench_past, rfl, .inl ⟨rfl, _, isL (s1 _ _ hp)⟩, p, _, _, rfl, rfl, s1 _ _ hp, (by simp; rfl), ?_⟩
    have hd : (ps ++ [V.ref vp]).dropLast = ps := by simp
    rw [hd]
    have x2 : Ext H1 (upd H1 p (.lst ps)) := Ext.lst (s1 _ _ hp)
    have s2 : SameX [b, p, q1] H (upd H1 p (.lst ps)) := (SameX.of s1).at_ (by simp)
    have hp2 : upd H1 p (.lst ps) p = some (.lst ps) := upd_same
    have hb2 : BAt K (upd H1 p (.lst ps)) b dx a p q1 d := by unfold BAt; rw [upd_ne (Ne.symm hpb)]; exact s1 _ _ hb
    have hq2 : upd H1 p (.lst ps) q1 = some (.lst qs) := by rw [upd_ne (Ne.symm hpq)]; exact s1 _ _ hq
    have x12 : Ext H (upd H1 p (.lst ps)) := (Same.ext s1).trans x2
    generalize upd H1 p (.lst ps) = H2 at x2 s2 hp2 hb2 hq2 x12 ⊢
    refine ⟨vp, _, rfl, Ext.sqt x12 hv, rfl, _, _, rfl, _, _, rfl, rfl, ?_⟩
    refine ⟨_, rfl, b, _, dx, _, _, rfl, hb2, cl, T.n_Bench_ahead, rfl, .inl ⟨rfl, _, isL hq2⟩, _, rfl, _, rfl, b, _, dx, _, _, rfl, hb2, cl, T.n_Bench_net, rfl, by show 2 ≤ sizeLine; decide, fun u hu => ?_⟩
    have s3' := Same.new (o := .tup [ev, .ref a]) hu
    have hu3 : upd H2 u (.tup [ev, .ref a]) u = some (.tup [ev, .ref a]) := upd_same
    generalize upd H2 u (.tup [ev, .ref a]) = H3 at s3' hu3 ⊢
    refine ⟨q1, qs, _, rfl, rfl, s3' _ _ hq2, sz9 (by omega), ?_⟩
    have x4 : Ext H3 (upd H3 q1 (.lst (qs ++ [.ref u]))) := Ext.lst (s3' _ _ hq2)
    have s4 : SameX [b, p, q1] H (upd H3 q1 (.lst (qs ++ [.ref u]))) := (s2.trans (SameX.of s3')).at_ (by simp)
    have hq4 : upd H3 q1 (.lst (qs ++ [.ref u])) q1 = some (.lst (qs ++ [.ref u])) := upd_same
    have hb4 : BAt K (upd H3 q1 (.lst (qs ++ [.ref u]))) b dx a p q1 d := by unfold BAt; rw [upd_ne (Ne.symm hqb)]; exact s3' _ _ hb2
    have hp4 : upd H3 q1 (.lst (qs ++ [.ref u])) p = some (.lst ps) := by rw [upd_ne hpq]; exact s3' _ _ hp2
    have hu4 : upd H3 q1 (.lst (qs ++ [.ref u])) u = some (.tup [ev, .ref a]) := x4 _ _ hu3 rfl
    generalize upd H3 q1 (.lst (qs ++ [.ref u])) = H4 at x4 s4 hq4 hb4 hp4 hu4 ⊢
    refine ⟨_, rfl, _, rfl, b, _, dx, _, rfl, hb4, cl, T.n_Bench_net, by simp [bf], ?_⟩
    refine ⟨_, rfl, ?_⟩
    have x5 : Ext H4 (upd H4 b (.ins (gA "Bench" K) dx (putF "net" (.ref a0) (bf a p q1 d)))) := Ext.unf hb4 unf_bf
    exact q _ u (s4.at_ (by simp)) (((x12.trans (Same.ext s3')).trans x4).trans x5) (by unfold BAt; rw [upd_same]; rfl) (by rw [upd_ne hpb]; exact hp4) (by rw [upd_ne hqb]; exact hq4) (x5 _ _ hu4 rfl)
def spRedo (K : PySem.W.Frag) : Sp := fun vs H Q _ => ∃ (b dx a p q d a0 vp : Addr) (ps qs : List V) (ev : V), vs = [.ref b] ∧ BAt K H b dx a p q d ∧ H q = some (.lst (qs ++ [.ref vp])) ∧ SqT K H vp [ev, .ref a0] ∧ H p = some (.lst ps) ∧ p ≠ q ∧ ps.length ≤ 1000 ∧ qs.length ≤ 1000 ∧
  ∀ H' u, SameX [b, p, q] H H' → Ext H H' → BAt K H' b dx a0 p q d → H' q = some (.lst qs) → H' p = some (.lst (ps ++ [.ref u])) → H' u = some (.tup [ev, .ref a]) → Q ev H'
theorem sc_Bench_redo : FnScope ["self", "edits", "later"] ["self"] (defScope s_Bench_redo) := ⟨rfl, rfl, rfl, by decide +kernel, rfl, by decide +kernel, by decide +kernel⟩
theorem ok_Bench_redo (T : Txt w K mg) : FnR P w K mg base CX0 1 (mA "Bench" "redo" K) (spRedo K) := by
  obtain ⟨fd, F⟩ := T.f_Bench_redo
  refine mkR F sc_Bench_redo (fun _ _ _ _ _ _ us hl => match us, hl with | [_], _ => rfl) (fun vs H Q E h => ?_) (fun cdv A outer s H vs Q E hr h => ?_)
  · obtain ⟨b, dx, a, p, q, d, a0, vp, ps, qs, ev, rfl, _⟩ := h
    rfl
  · obtain ⟨b, dx, a, p, q1, d, a0, vp, ps, qs, ev, rfl, hb, hq, hv, hp, hpq, hl1, hl2, q⟩ := h
    have nd := sc_Bench_redo.nd
    have cl := T.cl_Bench
    refine ⟨_, (pss_cons (ps_if (pt_cmpR (op_eq0 hr.units) (pe_fld (pv 0) rfl) (pe_lst pa_nil) (nomark _)) (pss_one ps_never) pss_nil)
      (pss_cons (ps_asg (pe_bm0 PySem.F.plainAttrs_list PySem.F.slot_list_pop PySem.F.type_list_pop mt_pop (pe_fld (pv 0) rfl)) (pg_tup rfl (pgs_cons (pg_name (i := 1) nd rfl (Or.inl rfl)) (pgs_cons (pg_name (i := 2) nd rfl (Or.inl rfl)) pgs_nil))))
      (pss_cons (ps_expr (pe_bm PySem.F.plainAttrs_list PySem.F.slot_list_append PySem.F.type_list_append mt_append (pe_fld (pv 0) rfl) (pa_cons (pe_tup (pa_cons (pv 1) (pa_cons (pe_fld (pv 0) rfl) pa_nil))) pa_nil)))
      (pss_cons (ps_fld (pv 0) (pv 2) rfl)
      (pss_one (ps_ret (pv 1))))))), ?_⟩
    have hpb : p ≠ b := ne_of hp hb (fun z => by cases z)
    have hqb : q1 ≠ b := ne_of hq hb (fun z => by cases z)
    refine ⟨_, rfl, b, _, dx, _, _, rfl, hb, cl, T.n_Bench_ahead, rfl, by show 0 ≤ sizeLine; decide, fun e0 he0 => ?_⟩
    have s1 := Same.new (o := .lst []) he0
    have he1 : upd H e0 (.lst []) e0 = some (.lst []) := upd_same
    generalize upd H e0 (.lst []) = H1 at s1 he1 ⊢
    refine ⟨q1, e0, _, rfl, rfl, .inl ⟨isL (s1 _ _ hq), isL he1⟩, _, rfl, ite_f (by cases qs <;> rfl) ?_⟩
    refine ⟨_, rfl, b, _, dx, _, _, rfl, s1 _ _ hb, cl, T.n_Bench_ahead, rfl, .inl ⟨rfl, _, isL (s1 _ _ hq)⟩, q1, _, _, rfl, rfl, s1 _ _ hq, (by simp; rfl), ?_⟩
    have hd : (qs ++ [V.ref vp]).dropLast = qs := by simp
    rw [hd]
    have x2 : Ext H1 (upd H1 q1 (.lst qs)) := Ext.lst (s1 _ _ hq)
    have s2 : SameX [b, p, q1] H (upd H1 q1 (.lst qs)) := (SameX.of s1).at_ (by simp)
    have hq2 : upd H1 q1 (.lst qs) q1 = some (.lst qs) := upd_same
    have hb2 : BAt K (upd H1 q1 (.lst qs)) b dx a p q1 d := by unfold BAt; rw [upd_ne (Ne.symm hqb)]; exact s1 _ _ hb
    have hp2 : upd H1 q1 (.lst qs) p = some (.lst ps) := by rw [upd_ne hpq]; exact s1 _ _ hp
    have x12 : Ext H (upd H1 q1 (.lst qs)) := (Same.ext s1).trans x2
    generalize upd H1 q1 (.lst qs) = H2 at x2 s2 hp2 hb2 hq2 x12 ⊢
    refine ⟨vp, _, rfl, Ext.sqt x12 hv, rfl, _, _, rfl, _, _, rfl, rfl, ?_⟩
    refine ⟨_, rfl, b, _, dx, _, _, rfl, hb2, cl, T.n_Bench_past, rfl, .inl ⟨rfl, _, isL hp2⟩, _, rfl, _, rfl, b, _, dx, _, _, rfl, hb2, cl, T.n_Bench_net, rfl, by show 2 ≤ sizeLine; decide, fun u hu => ?_⟩
    have s3' := Same.new (o := .tup [ev, .ref a]) hu
    have hu3 : upd H2 u (.tup [ev, .ref a]) u = some (.tup [ev, .ref a]) := upd_same
    generalize upd H2 u (.tup [ev, .ref a]) = H3 at s3' hu3 ⊢
    refine ⟨p, ps, _, rfl, rfl, s3' _ _ hp2, sz9 (by omega), ?_⟩
    have x4 : Ext H3 (upd H3 p (.lst (ps ++ [.ref u]))) := Ext.lst (s3' _ _ hp2)
    have s4 : SameX [b, p, q1] H (upd H3 p (.lst (ps ++ [.ref u]))) := (s2.trans (SameX.of s3')).at_ (by simp)
    have hp4 : upd H3 p (.lst (ps ++ [.ref u])) p = some (.lst (ps ++ [.ref u])) := upd_same
    have hb4 : BAt K (upd H3 p (.lst (ps ++ [.ref u]))) b dx a p q1 d := by unfold BAt; rw [upd_ne (Ne.symm hpb)]; exact s3' _ _ hb2
    have hq4 : upd H3 p (.lst (ps ++ [.ref u])) q1 = some (.lst qs) := by rw [upd_ne (Ne.symm hpq)]; exact s3' _ _ hq2
    have hu4 : upd H3 p (.lst (ps ++ [.ref u])) u = some (.tup [ev, .ref a]) := x4 _ _ hu3 rfl
    generalize upd H3 p (.lst (ps ++ [.ref u])) = H4 at x4 s4 hq4 hb4 hp4 hu4 ⊢
    refine ⟨_, rfl, _, rfl, b, _, dx, _, rfl, hb4, cl, T.n_Bench_net, by simp [bf], ?_⟩
    refine ⟨_, rfl, ?_⟩
    have x5 : Ext H4 (upd H4 b (.ins (gA "Bench" K) dx (putF "net" (.ref a0) (bf a p q1 d)))) := Ext.unf hb4 unf_bf
    exact q _ u (s4.at_ (by simp)) (((x12.trans (Same.ext s3')).trans x4).trans x5) (by unfold BAt; rw [upd_same]; rfl) (by rw [upd_ne hqb]; exact hq4) (by rw [upd_ne hpb]; exact hp4) (x5 _ _ hu4 rfl)
end
end Cp
/-! Bench: apply, back_to. -/
namespace Cp
open PySem PySem.Spec PyProof.Rows L2
def doneL (r : Bool) : Net → List Deed → Option Net
  | M, [] => some M
  | M, d :: ds => match done r M d with
    | some M1 => doneL r M1 ds
    | none => none
section
variable {P : Program} {w : World} {K : PySem.W.Frag} {mg : Str → Option Value} {base : Heap}
theorem Settled.same0 {r : Bool} {H H1 H' : Hp} {b dx a p d c : Addr} {ps : List V} {ev : V} {M M' : Net} {q' vp t : Addr} (s : Same H H1) (h : Settled K r H1 H' b dx a p d c ps ev M M' q' vp t) : Settled K r H H' b dx a p d c ps ev M M' q' vp t := by
  obtain ⟨h1, h2, h3, h4, h5⟩ := h
  exact ⟨(SameX.of s).trans h1, h2, h3, s.free h4, h5⟩
def spApply (K : PySem.W.Frag) (r : Bool) : Sp := fun vs H Q _ => ∃ (b dx a p q d : Addr) (ps : List V) (M M' : Net) (es : List Addr) (ds : List Deed), vs = .ref b :: es.map V.ref ∧ BAt K H b dx a p q d ∧ NetAt K r H a M ∧ NetOk r M ∧ Rel2 (DeedAt K H) es ds ∧ ds.length ≤ 100 ∧ doneL r M ds = some M' ∧ H p = some (.lst ps) ∧ ps.length ≤ 1000 ∧
  ∀ H' q' vp t c ev, Settled K r H H' b dx a p d c ps ev M M' q' vp t → NetOk r M' → Q (.ref t) H'
theorem sc_Bench_apply : FnScope ["self", "edits", "later", "index", "edit"] ["self", "edits"] (defScope s_Bench_apply) := ⟨rfl, rfl, rfl, by decide +kernel, rfl, by decide +kernel, by decide +kernel⟩
theorem ok_Bench_apply (T : Txt w K mg) (r : Bool) : FnR P w K mg base CX0 10 (mA "Bench" "apply" K) (spApply K r) := by
  obtain ⟨fd, F⟩ := T.f_Bench_apply
  refine FnR.imp (mkRS (ps := ["self"]) (pv := "edits") (k := 9) (sp := fun vs H Q E => ∃ (b dx a p q d t0 : Addr) (ps : List V) (M M' : Net) (es : List Addr) (ds : List Deed), vs = [.ref b, .ref t0] ∧ SqT K H t0 (es.map V.ref) ∧ BAt K H b dx a p q d ∧ NetAt K r H a M ∧ NetOk r M ∧ Rel2 (DeedAt K H) es ds ∧ ds.length ≤ 100 ∧ doneL r M ds = some M' ∧ H p = some (.lst ps) ∧ ps.length ≤ 1000 ∧
      ∀ H' q' vp t c ev, Settled K r H H' b dx a p d c ps ev M M' q' vp t → NetOk r M' → Q (.ref t) H')
    F sc_Bench_apply (fun kV doc pm an cdv ct us rest hl => match us, rest, hl with | [a], [], _ => rfl | [a], r :: rs, _ => rfl) fun cdv A outer s H vs Q E hr h => ?_) fun vs H Q E h => ?_
  · obtain ⟨b, dx, a, p, q1, d, t0, ps, M, M', es, ds, rfl, ht0, hb, hnet, hM, hds, hdl, hdone, hp, hps, q⟩ := h
    have nd := sc_Bench_apply.nd
    have cl := T.cl_Bench
    refine ⟨_, (pss_cons (ps_set (i := 2) nd rfl (Or.inl rfl) (pe_fld (pv 0) rfl))
      (pss_cons (ps_for PassesOwn.never rfl (pi_enumT (by rfl) T.b_enumerate (pa_cons (pv 1) pa_nil)) (pg_tup rfl (pgs_cons (pg_name (i := 3) nd rfl (Or.inl rfl)) (pgs_cons (pg_name (i := 4) nd rfl (Or.inl rfl)) pgs_nil)))
        (pss_cons (ps_if (pt_not (pt_val (rf_call (ok_is_edit T) hr T.g_is_edit T.k_is_edit (pa_cons (pv 4) pa_nil)))) (pss_one ps_never) pss_nil)
      (pss_one (ps_try_thru0 (pss_one (ps_set (i := 2) nd rfl (Or.inl rfl) (rf_call (ok_edited T r) hr T.g_edited T.k_edited (pa_cons (pv 2) (pa_cons (pv 4) pa_nil)))))))))
      (pss_one (ps_ret (rf_meth (pv 0) T.cl_Bench T.m_Bench_settle (ok_Bench_settle T r) hr (pa_cons (pe_callTy call_tuple_of (by rfl) T.b_tuple (by decide +kernel) (pa_cons (pe_lc (own := [("edit", 4)]) (g := (gName 4)) (tt := tYes) (te := (tCR (spRecd K) (tCons (tVar 4) tNil))) rfl nd (pi_tup (pv 1)) (blkOk_by (N := ["self", "edits", "later", "index", "edit"]) (sc := defScope s_Bench_apply) (by decide +kernel)) (fun _ _ _ _ _ => (pg_name (i := 4) nd rfl (Or.inl rfl))) (fun _ _ _ _ _ => pts_nil) (fun _ _ _ _ _ => (rf_call (ok_recorded T) hr T.g_recorded T.k_recorded (pa_cons (pv 4) pa_nil)))) pa_nil)) (pa_cons (pv 2) pa_nil))))))), ?_⟩
    refine ⟨_, rfl, b, _, dx, _, _, rfl, hb, cl, T.n_Bench_net, rfl, ?_⟩
    refine ⟨_, rfl, t0, _, rfl, .inr ⟨ht0, ?_⟩⟩
    have hel : (es.map V.ref).length = ds.length := by rw [List.length_map]; exact hds.1
    refine for_it walk_enumT (fun i σ H1 => ∃ c Mi u v, σ = [some (.ref b), some (.ref t0), some (.ref c), u, v] ∧ Same H H1 ∧ NetAt K r H1 c Mi ∧ NetOk r Mi ∧ Mi.n = M.n ∧ doneL r Mi (ds.drop i) = some M')
      ⟨a, M, none, none, rfl, Same.refl _, hnet, hM, rfl, hdone⟩ (fun i σ H1 _ ⟨c, Mi, u, v, e, s1, _⟩ => Same.sqt s1 ht0) (fun i x σ H1 H2 hi ⟨c, Mi, u, v, e, s1, hc, hMi, hn, hdi⟩ y => ?_) (fun σ H1 ⟨c, Mi, u, v, e, s1, hc, hMi, hn, hdi⟩ => ?_)
    · obtain ⟨T', i', p', rfl, hT, rfl, ei, hx⟩ := y
      obtain ⟨ea, hea, rfl⟩ := refs_get hx
      cases ei
      subst e
      obtain ⟨di, hdi1, hdeed⟩ := hds.get' hea
      have hil : i < ds.length := (List.getElem?_eq_some_iff.mp hdi1).1
      have ed : ds.drop i = di :: ds.drop (i + 1) := by
        rw [List.drop_eq_getElem_cons hil]
        congr 1
        rw [List.getElem?_eq_getElem hil] at hdi1
        exact Option.some.inj hdi1
      rw [ed] at hdi
      have s2 : Same H (upd H1 T' (.tup [.int (i : Nat), .ref ea])) := s1.trans (Same.new hT)
      have hdeed2 := DeedAt.mono s2 hdeed
      have hc2 := NetAt.mono (Same.new (o := .tup [.int (i : Nat), .ref ea]) hT) hc
      cases hdn : done r Mi di with
      | none => simp only [doneL, hdn] at hdi; cases hdi
      | some M1 =>
        simp only [doneL, hdn] at hdi
        obtain ⟨hM1, hn1⟩ := done_ok hMi hdn
        refine ⟨T', _, rfl, isT upd_same, rfl, _, _, rfl, _, _, rfl, rfl, ?_⟩
        refine ⟨_, rfl, ea, di, rfl, hdeed2, true, rfl, iteF ?_⟩
        refine ⟨_, rfl, _, rfl, c, ea, Mi, M1, di, rfl, hc2, hMi, hdeed2, hdn, fun x H' s' nx hx' => ?_⟩
        exact ⟨x, M1, _, _, rfl, s2.trans s', hx', hM1, by omega, hdi⟩
    · subst e
      rw [hel, List.drop_length] at hdi
      cases hdi
      refine ⟨_, rfl, b, dx, _, rfl, s1 _ _ hb, rfl, ?_⟩
      refine ⟨_, rfl, t0, rfl, ⟨_, Same.sqt s1 ht0⟩, fun D hD => ?_⟩
      refine lc_map (items := ds) hD (by have w := walk_tup (K := K) (a := t0) (xs := es.map V.ref); rwa [hel] at w) (fun _ _ _ => True) (fun _ _ _ _ _ _ => trivial) (sz7 (by omega)) (fun H4 s4 => Same.sqt (s1.trans s4) ht0) (fun i di edi H4 s4 Ky hy v2 H' y => ?_) (fun acc H4 s4 hd4 rel => ?_)
      · obtain ⟨rfl, hx⟩ := y
        obtain ⟨ea, hea, rfl⟩ := refs_get hx
        refine ⟨rfl, _, rfl, ea, di, rfl, DeedAt.mono (s1.trans s4) (hds.2 i ea di hea edi), fun v3 H5 s5 => hy _ _ s5 trivial⟩
      · refine ⟨D, acc, rfl, .inl ⟨isL hd4, fun tp htp => ?_⟩⟩
        have s5 := (s1.trans s4).trans (Same.new (o := .tup acc) htp)
        have s45 := s4.trans (Same.new (o := .tup acc) htp)
        refine ⟨_, rfl, b, dx, a, p, q1, d, c, ps, _, M, M', rfl, s5 _ _ hb, NetAt.mono s5 hnet, hM, NetAt.mono s45 hc, hMi, hn, s5 _ _ hp, hps, fun H' q' vp t hset => ?_⟩
        exact q H' q' vp t c _ (Settled.same0 s5 hset) hMi
  · obtain ⟨b, dx, a, p, q1, d, ps, M, M', es, ds, rfl, hb, hnet, hM, hds, hdl, hdone, hp, hps, q⟩ := h
    have hel : es.length = ds.length := hds.1
    refine ⟨[.ref b], es.map V.ref, rfl, rfl, by rw [List.length_map]; exact sz10 (by omega), fun t ht => ?_⟩
    have s1 := Same.new (o := .tup (es.map V.ref)) ht
    exact ⟨b, dx, a, p, q1, d, t, ps, M, M', es, ds, rfl, isT upd_same, s1 _ _ hb, NetAt.mono s1 hnet, hM, hds.imp fun _ _ z => DeedAt.mono s1 z, hdl, hdone, s1 _ _ hp, hps, fun H' q' vp t c ev hs hm => q H' q' vp t c ev (Settled.same0 s1 hs) hm⟩
def spBack (K : PySem.W.Frag) (r : Bool) : Sp := fun vs H Q _ => ∃ (b dx a p q d c : Addr) (ps : List V) (M M' : Net) (kvs : List (Key × V)) (nm : Str), vs = [.ref b, .str nm] ∧ BAt K H b dx a p q d ∧ NetAt K r H a M ∧ NetOk r M ∧ H d = some (.dK kvs) ∧ valV kvs (.inr nm) = some (.ref c) ∧ NetAt K r H c M' ∧ NetOk r M' ∧ M'.n = M.n ∧ H p = some (.lst ps) ∧ ps.length ≤ 1000 ∧
  ∀ H' q' vp t ev, Settled K r H H' b dx a p d c ps ev M M' q' vp t → Q (.ref t) H'
theorem sc_Bench_back_to : FnScope ["self", "name"] ["self", "name"] (defScope s_Bench_back_to) := ⟨rfl, rfl, rfl, by decide +kernel, rfl, by decide +kernel, by decide +kernel⟩
theorem ok_Bench_back_to (T : Txt w K mg) (r : Bool) : FnR P w K mg base CX0 10 (mA "Bench" "back_to" K) (spBack K r) := by
  obtain ⟨fd, F⟩ := T.f_Bench_back_to
  refine mkR F sc_Bench_back_to (fun _ _ _ _ _ _ us hl => match us, hl with | [_, _], _ => rfl) (fun vs H Q E h => ?_) (fun cdv A outer s H vs Q E hr h => ?_)
  · obtain ⟨b, dx, a, p, q, d, c, ps, M, M', kvs, nm, rfl, _⟩ := h
    rfl
  · obtain ⟨b, dx, a, p, q1, d, c, ps, M, M', kvs, nm, rfl, hb, hnet, hM, hd, hv, hnet', hM', hn, hp, hps, q⟩ := h
    have nd := sc_Bench_back_to.nd
    have cl := T.cl_Bench
    have dg : ∀ Hx : Hp, Hx d = some (.dK kvs) → DGet Hx d (.str nm) (some (.ref c)) := fun Hx hh => by
      have z := DGet.k (k := .inr nm) hh
      rw [hv] at z
      exact z
    refine ⟨_, (pss_cons (ps_if (PW.pt (pw_or (pt_not (pt_val (pe_callB call_isi (by rfl) T.b_isinstance (by decide +kernel) (pa_cons (pv 1) (pa_cons (pe_bltn (v := .ty "str") (by rfl) T.b_str (by decide +kernel) rfl) pa_nil))))) (pw_or1 (pt_cmp (pc_dnotin (hu_of hr) (pv 1) (pe_fld (pv 0) rfl)))))) (pss_one ps_never) pss_nil)
      (pss_one (ps_ret (rf_meth (pv 0) T.cl_Bench T.m_Bench_settle (ok_Bench_settle T r) hr (pa_cons (pe_tup (pa_cons (pe_tup (pa_cons pe_str (pa_cons (pv 1) pa_nil))) pa_nil)) (pa_cons (pe_dget (hu_of hr) (pe_fld (pv 0) rfl) (pv 1) (fun _ _ => rfl)) pa_nil)))))), ?_⟩
    refine ⟨_, rfl, _, _, _, _, true, rfl, .ty "str", .base (.str _), kit_ty (by decide +kernel), true, rfl, iteF ?_⟩
    refine ⟨_, rfl, _, rfl, b, _, dx, _, _, rfl, hb, cl, T.n_Bench_marked, rfl, d, _, rfl, dg _ hd, _, rfl, iteF ?_⟩
    refine ⟨_, rfl, b, dx, _, rfl, hb, rfl, ?_⟩
    refine ⟨_, rfl, by show 2 ≤ sizeLine; decide, fun t1 ht1 => ⟨by show 1 ≤ sizeLine; decide, fun t2 ht2 => ?_⟩⟩
    have s1 := (Same.new (o := .tup [.str "back", .str nm]) ht1).trans (Same.new (o := .tup [.ref t1]) ht2)
    refine ⟨_, rfl, b, _, dx, _, _, rfl, s1 _ _ hb, cl, T.n_Bench_marked, rfl, _, rfl, d, _, rfl, dg _ (s1 _ _ hd), ?_⟩
    exact ⟨b, dx, a, p, q1, d, c, ps, _, M, M', rfl, s1 _ _ hb, NetAt.mono s1 hnet, hM, NetAt.mono s1 hnet', hM', hn, s1 _ _ hp, hps, fun H' q' vp t hset => q H' q' vp t _ (Settled.same0 s1 hset)⟩
end
end Cp
/-! trial_with. -/
namespace Cp
open PySem PySem.Spec PyProof.Rows L2
def look : List (Nat × Nat) → Nat → Nat
  | [], _ => 80
  | (p, c) :: r, x => if x = p then c else look r x
def tw (n : Nat) (pl : List (Nat × Nat)) (z0 : Nat) : List Nat := ((List.range n).map fun i => look pl (n - i)) ++ [z0]
theorem join_st : ∀ cs : List Nat, Str.join "" (cs.map st1) = sOf cs
  | [] => rfl
  | [c] => rfl
  | c :: d :: r => by
    show st1 c ++ ("" : Str) ++ Str.join "" ((d :: r).map st1) = _
    rw [join_st (d :: r)]
    show (⟨(#[c] ++ #[]) ++ (d :: r).toArray⟩ : Str) = ⟨(c :: d :: r).toArray⟩
    congr 1
    simp
theorem join_st' (cs : List Nat) : PySem.Txt.join "" (cs.map st1) = sOf cs := by
  show Builtin.Str.glued _ _ = _
  rw [StrLaws.glued_eq_join]
  exact join_st cs
theorem st_append (cs : List Nat) (c : Nat) : sOf cs ++ st1 c = sOf (cs ++ [c]) := by
  show (⟨cs.toArray ++ #[c]⟩ : Str) = ⟨(cs ++ [c]).toArray⟩
  congr 1
  simp
theorem w_down {n : Nat} : Walk (Itc (n : Int) (-1) n) (List.range n).length (fun _ => True) (YFn fun i => .int ((n : Int) - (i : Nat))) := by
  rw [List.length_range]
  exact walk_rangeC.mono (fun _ _ => trivial) fun i H x H' _ _ y => ⟨y.1, by rw [y.2]; show V.int _ = V.int _; congr 1; omega⟩
section
variable {P : Program} {w : World} {K : PySem.W.Frag} {mg : Str → Option Value} {base : Heap}
def plK (pl : List (Nat × Nat)) : List (Key × V) := pl.map fun q => (.inl (q.1 : Int), .str (st1 q.2))
theorem pl_val : ∀ pl : List (Nat × Nat), pl.length ≤ 2 → pl.Pairwise (fun a b => a.1 ≠ b.1) → ∀ x : Nat, (valV (mergeK [] (plK pl)) (.inl (x : Int))).getD (.str (st1 80)) = .str (st1 (look pl x))
  | [], _, _, x => rfl
  | [(p, c)], _, _, x => by
    have e : mergeK [] (plK [(p, c)]) = [(.inl (p : Int), .str (st1 c))] := rfl
    rw [e]
    by_cases h : x = p
    · subst h; rw [valV_pos rfl]; simp [look]
    · rw [valV_neg (fun z => h (by have := Sum.inl.inj z; omega)), valV_nil]; simp [look, h]
  | [(p, c), (q, d)], _, hp, x => by
    have hpq : p ≠ q := (List.pairwise_cons.mp hp).1 (q, d) (by simp)
    have e : mergeK [] (plK [(p, c), (q, d)]) = putK [(.inl (p : Int), .str (st1 c))] (.inl (q : Int)) (.str (st1 d)) := rfl
    rw [e, valV_put]
    by_cases h : x = q
    · subst h; rw [if_pos rfl]; simp [look, Ne.symm hpq]
    · rw [if_neg (fun z => h (by have := Sum.inl.inj z; omega))]
      by_cases h2 : x = p
      · subst h2; rw [valV_pos rfl]; simp [look]
      · rw [valV_neg (fun z => h2 (by have := Sum.inl.inj z; omega)), valV_nil]; simp [look, h, h2]
  | _ :: _ :: _ :: _, h, _, _ => by simp at h
def spTw (K : PySem.W.Frag) : List V → List V → Hp → VK → Prop := fun vs zs H Q => ∃ (n z0 : Nat) (as : List Addr) (pl : List (Nat × Nat)), vs = .int n :: as.map V.ref ∧ zs = [.str (st1 z0)] ∧ n ≤ 24 ∧ pl.length ≤ 2 ∧ pl.Pairwise (fun a b => a.1 ≠ b.1) ∧ Rel2 (fun a c => SqT K H a [.int (c.1 : Nat), .str (st1 c.2)]) as pl ∧
  ∀ H', Same H H' → Q (.str (sOf (tw n pl z0))) H'
theorem sc_trial_with : FnScope ["n", "zero", "placed", "given", "position"] ["n", "zero", "placed"] (defScope s_trial_with) := ⟨rfl, rfl, rfl, by decide +kernel, rfl, by decide +kernel, by decide +kernel⟩
theorem paired_of {H : Hp} : ∀ {as : List Addr} {pl : List (Nat × Nat)}, Rel2 (fun a c => SqT K H a [.int (c.1 : Nat), .str (st1 c.2)]) as pl → Paired (fun p kv => SqT K H p [kV kv.1, kv.2]) as (plK pl)
  | [], [], _ => .nil
  | [], _ :: _, h => by have := h.1; simp at this
  | _ :: _, [], h => by have := h.1; simp at this
  | a :: as, c :: pl, h => .cons (h.2 0 a c rfl rfl) (paired_of ⟨by have := h.1; simpa using this, fun i x y e1 e2 => h.2 (i + 1) x y (by simpa using e1) (by simpa using e2)⟩)
theorem ok_trial_with (T : Txt w K mg) : FnRW P w K mg base 1 (gA "trial_with" K) ["zero"] (spTw K) := by
  obtain ⟨fd, F⟩ := T.f_trial_with
  have key := mkRWS (P := P) (w := w) (mg := mg) (base := base) (k := 0) (kn := "zero") (ps := ["n", "zero", "placed"]) (sp := fun a z t H Q => ∃ (n z0 : Nat) (as : List Addr) (pl : List (Nat × Nat)) (o : Obj), a = .int n ∧ z = .str (st1 z0) ∧ n ≤ 24 ∧ pl.length ≤ 2 ∧ pl.Pairwise (fun a b => a.1 ≠ b.1) ∧ tupObj o ∧ H t = some (.frz o (.tup (as.map V.ref))) ∧ Rel2 (fun a c => SqT K H a [.int (c.1 : Nat), .str (st1 c.2)]) as pl ∧
    ∀ H', Same H H' → Q (.str (sOf (tw n pl z0))) H') F sc_trial_with rfl (fun kV doc pm an cdv ct a z rest => match rest with | [] => rfl | r :: rs => rfl) fun cdv A outer s H a z t Q hr h => ?_
  · intro A outer s H us ws vs zs Q hr e0 r rz h
    obtain ⟨n, z0, as, pl, ev, ez, hn, hl, hp, hrel, q⟩ := h
    refine key A outer s H us ws vs zs Q hr e0 r rz ⟨_, _, _, ev, ez, by rw [List.length_map, hrel.1]; exact sz10 (by omega), fun p o ho hp2 => ⟨n, z0, as, pl, o, rfl, rfl, hn, hl, hp, ho, upd_same, hrel.imp fun _ _ x => Same.sqt (Same.new hp2) x, fun H' s' => q H' ((Same.new hp2).trans s')⟩⟩
  · obtain ⟨n, z0, as, pl, o, rfl, rfl, hn, hl, hp, ho, ht, hrel, q⟩ := h
    have nd := sc_trial_with.nd
    refine ⟨_, (pss_cons (ps_set (i := 3) nd rfl (Or.inr rfl) (pe_callTy (call_dictT rfl) (by rfl) T.b_dict (by decide +kernel) (pa_cons (pv 2) pa_nil)))
      (pss_one (ps_ret (pe_op op_add_str (pe_join pe_str (pe_lc (own := [("position", 4)]) (g := (gName 4)) (tt := tYes) (te := (tDGet2 (tVar 3) (tVar 4) (tC (.str "P")))) rfl nd (pi_range3 (by rfl) T.b_range (pa_cons (pv 0) (pa_cons pe_int (pa_cons (pe_un un_neg pe_int) pa_nil)))) (blkOk_by (N := ["n", "zero", "placed", "given", "position"]) (sc := defScope s_trial_with) (by decide +kernel)) (fun _ _ _ _ _ => (pg_name (i := 4) nd rfl (Or.inl rfl))) (fun _ _ _ _ _ => pts_nil) (fun _ _ _ _ _ => (pe_dget2 (hu_of hr) (pv 3) (pv 4) (pe_gs T.c_PASS) m2_here)))) (pv 1))))), ?_⟩
    refine ⟨_, rfl, t, o, as, plK pl, rfl, ho, ht, paired_of hrel, fun g hg => ?_⟩
    have s1 := Same.new (o := .dK (mergeK [] (plK pl))) hg
    have hg1 : upd H g (.dK (mergeK [] (plK pl))) g = some (.dK (mergeK [] (plK pl))) := upd_same
    generalize upd H g (.dK (mergeK [] (plK pl))) = H1 at s1 hg1 ⊢
    refine ⟨⟨_, rfl⟩, _, rfl, 1, rfl, _, _, _, n, rfl, ?_, ?_⟩
    · have z := RgC.neg (i := (n : Int)) (j := 0) (by omega) (by omega) (by omega) (by omega)
      rw [show ((n : Int) - 0).toNat = n by omega] at z
      exact z
    intro D hD
    refine lc_map (items := List.range n) hD w_down (fun _ v i => v = .str (st1 (look pl (n - i)))) (fun _ _ _ _ _ h => h) (by rw [List.length_range]; exact sz7 (by omega)) (fun _ _ => trivial) (fun i x ex H2 s2 Ky hy v H' y => ?_) (fun acc H2 s2 hd2 rel => ?_)
    · obtain ⟨rfl, rfl⟩ := y
      obtain ⟨rfl, hx⟩ := range_get ex
      have dg := DGet.k (k := .inl ((n - x : Nat) : Int)) (s2 _ _ hg1)
      have ek : ((n : Int) - (x : Nat)) = ((n - x : Nat) : Int) := by omega
      refine ⟨rfl, _, rfl, g, rfl, .inl ⟨_, .inl (s2 _ _ hg1)⟩, _, rfl, valV (mergeK [] (plK pl)) (.inl ((n - x : Nat) : Int)), ?_, ?_⟩
      · show DGet _ g (V.int ((n : Int) - (x : Nat))) _
        rw [ek]
        exact dg
      · refine hy _ _ (Same.refl _) ?_
        show (valV (mergeK [] (plK pl)) (.inl ((n - x : Nat) : Int))).getD (.str ("P" : Str)) = _
        rw [sP, pl_val pl hl hp]
    · have ea : acc = (((List.range n).map fun i => look pl (n - i)).map st1).map V.str := by rw [rel_map rel]; simp
      subst ea
      have hlen : (((List.range n).map fun i => look pl (n - i)).map st1).length = n := by simp
      have hsum : ∀ l : List Nat, ((l.map st1).map (·.length)).sum = l.length := fun l => by
        induction l with
        | nil => rfl
        | cons a r ih => simp only [List.map_cons, List.sum_cons, ih, List.length_cons]; show 1 + _ = _; omega
      refine ⟨"", D, ((List.range n).map fun i => look pl (n - i)).map st1, rfl, rfl, .inl (isL hd2), ?_, ?_⟩
      · rw [hsum, show (("" : Str)).length = 0 from by decide]; simp; omega
      refine ⟨_, rfl, _, _, rfl, rfl, ?_, ?_⟩
      · rw [join_st', sOf_len]
        show _ + 1 ≤ sizeLine
        simp
        exact sz10 (by omega)
      · rw [join_st', st_append]
        exact q H2 (s1.trans s2)
end
end Cp
set_option maxHeartbeats 2000000
/-! The mathematics: states by orders; a telling trial tells. -/
namespace Cp
open PySem PySem.Spec PyProof.Rows L2
def val (z : List Nat) : List Nat → Nat
  | [] => 80
  | p :: ps => if stAt z p = 80 then val z ps else stAt z p
theorem val80 {z : List Nat} : ∀ {a : List Nat}, val z a = 80 ↔ ∀ p ∈ a, stAt z p = 80
  | [] => by simp [val]
  | p :: ps => by
    unfold val
    by_cases h : stAt z p = 80
    · rw [if_pos h, val80]; simp [h]
    · rw [if_neg h]; simp [h]
theorem val_app {z : List Nat} {b : List Nat} : ∀ a : List Nat, val z (a ++ b) = if val z a = 80 then val z b else val z a
  | [] => by simp [val]
  | p :: ps => by
    show (if stAt z p = 80 then val z (ps ++ b) else stAt z p) = if (if stAt z p = 80 then val z ps else stAt z p) = 80 then val z b else (if stAt z p = 80 then val z ps else stAt z p)
    by_cases h : stAt z p = 80
    · rw [if_pos h, if_pos h, val_app ps]
    · rw [if_neg h, if_neg h, if_neg h]
theorem val_filter {z : List Nat} {keep : Nat → Bool} : ∀ {b : List Nat}, (∀ p ∈ b, keep p = false → stAt z p = 80) → val z (b.filter keep) = val z b
  | [], _ => rfl
  | p :: ps, h => by
    have ih := val_filter (z := z) (keep := keep) (b := ps) fun q hq => h q (by simp [hq])
    by_cases hk : keep p = true
    · rw [List.filter_cons_of_pos hk]
      unfold val
      rw [ih]
    · rw [List.filter_cons_of_neg hk, ih]
      have := h p (by simp) (by simpa using hk)
      show _ = val z (p :: ps)
      rw [show val z (p :: ps) = if stAt z p = 80 then val z ps else stAt z p from rfl, if_pos this]
theorem st0 {n : Nat} {z : List Nat} (h : TrialOk false n z) : stAt z 0 ≠ 80 := by
  have hl := h.len
  unfold stAt
  rw [List.getD_eq_getElem?_getD, show z.length - 1 - 0 = n by omega]
  intro e
  have : z[n]? = some z[n] := List.getElem?_eq_getElem (by omega)
  rw [this] at e
  have e : z[n] = 80 := e
  have := h.zero.mp (by rw [this, e])
  cases this
theorem val_follow {r : Bool} {n : Nat} {z a b : List Nat} (hz : TrialOk r n z) (ha : OrdOk r n a) : val z (follow a b) = if val z a = 80 then val z b else val z a := by
  unfold follow
  by_cases h0 : 0 ∈ a
  · rw [if_pos h0]
    have hlow := (ha.bd 0 h0).1
    have hr : r = false := by cases r with
      | false => rfl
      | true => simp [low] at hlow
    subst hr
    have : val z a ≠ 80 := fun e => st0 hz (val80.mp e 0 h0)
    rw [if_neg this]
  · rw [if_neg h0, val_app]
    by_cases h : val z a = 80
    · rw [if_pos h, if_pos h]
      refine val_filter fun p _ hk => ?_
      have hp : p ∈ a := by simpa using hk
      exact val80.mp h p hp
    · rw [if_neg h, if_neg h]
theorem getD_snoc {α : Type} {l : List α} {x d : α} {j : Nat} (h : l.length = j) : (l ++ [x]).getD j d = x := by
  rw [List.getD_eq_getElem?_getD, List.getElem?_append_right (by omega), show j - l.length = 0 by omega]
  rfl
theorem sts_val {r : Bool} {n : Nat} {z : List Nat} {cs : List (Nat × Nat)} (hz : TrialOk r n z) (hc : CellsOk r n cs) : ∀ i, i ≤ cs.length → ∀ j, low r ≤ j → j ≤ n + i → (sts z n (cs.take i)).getD j 80 = val z ((ords n (cs.take i)).getD j []) := by
  intro i
  induction i with
  | zero =>
    intro _ j h1 h2
    have e1 : (sts z n (cs.take 0)).getD j 80 = stAt z j := by
      show ((List.range (n + 1)).map (stAt z)).getD j 80 = _
      rw [List.getD_eq_getElem?_getD, List.getElem?_map, List.getElem?_range (by omega)]
      rfl
    have e2 : (ords n (cs.take 0)).getD j [] = [j] := by
      show ((List.range (n + 1)).map fun i => [i]).getD j [] = [j]
      rw [List.getD_eq_getElem?_getD, List.getElem?_map, List.getElem?_range (by omega)]
      rfl
    rw [e1, e2]
    show stAt z j = if stAt z j = 80 then 80 else stAt z j
    by_cases h : stAt z j = 80
    · rw [if_pos h, h]
    · rw [if_neg h]
  | succ i ih =>
    intro hi j h1 h2
    have e : cs[i]? = some cs[i] := List.getElem?_eq_getElem (by omega)
    obtain ⟨a1, a2, a3, a4⟩ := hc i cs[i].1 cs[i].2 e
    have l1 := ords_len n (cs.take i)
    have l2 := sts_len z n (cs.take i)
    have hti : (cs.take i).length = i := by simp; omega
    rw [sts_take e, ords_take e]
    by_cases hj : j ≤ n + i
    · rw [List.getD_eq_getElem?_getD, List.getElem?_append_left (by omega), List.getD_eq_getElem?_getD, List.getElem?_append_left (by omega), ← List.getD_eq_getElem?_getD, ← List.getD_eq_getElem?_getD]
      exact ih (by omega) j h1 hj
    · have ej : j = n + 1 + i := by omega
      subst ej
      rw [getD_snoc (by omega), getD_snoc (by omega)]
      have hu := ih (by omega) cs[i].1 a1 a2
      have hl := ih (by omega) cs[i].2 a3 a4
      show (if (sts z n (cs.take i)).getD cs[i].1 80 = 80 then (sts z n (cs.take i)).getD cs[i].2 80 else (sts z n (cs.take i)).getD cs[i].1 80) = val z (follow ((ords n (cs.take i)).getD cs[i].1 []) ((ords n (cs.take i)).getD cs[i].2 []))
      rw [val_follow hz (ords_ok (hc.take i) cs[i].1 a1 (by omega)), hu, hl]
theorem cars_val {r : Bool} {M : Net} {z : List Nat} (hM : NetOk r M) (hz : TrialOk r M.n z) : cars z M = (outOrds M).map fun a => if val z a = 71 then 1 else 0 := by
  unfold cars outOrds
  rw [List.map_map]
  refine List.map_congr_left fun o ho => ?_
  have hb := hM.out o ho
  have := sts_val hz hM.cells M.cs.length (Nat.le_refl _) o hb.1 hb.2
  rw [List.take_length] at this
  show (if (sts z M.n M.cs).getD o 80 = 71 then 1 else 0) = _
  rw [this]
  rfl
theorem outOrds_ok {r : Bool} {M : Net} (hM : NetOk r M) : ∀ a ∈ outOrds M, OrdOk r M.n a := by
  intro a ha
  obtain ⟨o, ho, rfl⟩ := List.mem_map.mp ha
  have hb := hM.out o ho
  exact ords_ok hM.cells o hb.1 hb.2
/-! ### a telling trial -/
theorem tw_len (n : Nat) (pl : List (Nat × Nat)) (z0 : Nat) : (tw n pl z0).length = n + 1 := by simp [tw]
theorem stAt_tw {n : Nat} {pl : List (Nat × Nat)} {z0 p : Nat} (hp : p ≤ n) : stAt (tw n pl z0) p = if p = 0 then z0 else look pl p := by
  unfold stAt
  rw [tw_len, List.getD_eq_getElem?_getD]
  unfold tw
  by_cases h : p = 0
  · subst h
    rw [if_pos rfl, List.getElem?_append_right (by simp)]
    simp
  · rw [if_neg h, List.getElem?_append_left (by simp; omega), List.getElem?_map, List.getElem?_range (by omega)]
    show look pl (n - (n + 1 - 1 - p)) = _
    congr 1
    omega
theorem tw_ok {r : Bool} {n : Nat} {pl : List (Nat × Nat)} {z0 : Nat} (h0 : (z0 = 80 ↔ r = true) ∧ (z0 = 71 ∨ z0 = 75 ∨ z0 = 80)) (hp : ∀ q ∈ pl, q.2 = 71 ∨ q.2 = 75) : TrialOk r n (tw n pl z0) := by
  have hl : ∀ (pl : List (Nat × Nat)), (∀ q ∈ pl, q.2 = 71 ∨ q.2 = 75) → ∀ x, look pl x = 71 ∨ look pl x = 75 ∨ look pl x = 80 := by
    intro pl
    induction pl with
    | nil => intro _ x; exact .inr (.inr rfl)
    | cons q r ih =>
      intro h x
      obtain ⟨p, c⟩ := q
      have e : look ((p, c) :: r) x = if x = p then c else look r x := rfl
      rw [e]
      by_cases hx : x = p
      · rw [if_pos hx]
        have hc : c = 71 ∨ c = 75 := h (p, c) (by simp)
        omega
      · rw [if_neg hx]; exact ih (fun q hq => h q (by simp [hq])) x
  refine ⟨tw_len _ _ _, fun c hc => ?_, ?_⟩
  · rcases List.mem_append.mp hc with hc | hc
    · obtain ⟨i, _, rfl⟩ := List.mem_map.mp hc
      exact hl pl hp _
    · simp at hc; subst hc; exact h0.2
  · have : (tw n pl z0)[n]? = some z0 := by
      unfold tw
      rw [List.getElem?_append_right (by simp)]
      simp
    rw [this]
    simpa using h0.1
theorem val_at {z u t : List Nat} {m : Nat} (hu : ∀ p ∈ u, stAt z p = 80) (hm : stAt z m ≠ 80) : val z (u ++ m :: t) = stAt z m := by
  rw [val_app, if_pos (val80.mpr hu)]
  show (if stAt z m = 80 then val z t else stAt z m) = _
  rw [if_neg hm]
theorem Z0.pre {u t : List Nat} {m : Nat} (h : Z0 (u ++ m :: t)) : 0 ∉ u := fun hu => by
  obtain ⟨i, hi, e⟩ := List.mem_iff_getElem.mp hu
  have := h i (by rw [List.getElem?_append_left hi, List.getElem?_eq_getElem hi, e])
  simp at this
  omega
def alone (a b : List Nat) : List Nat := (a ++ b).filter fun p => decide (p ∉ a ∨ p ∉ b)
theorem alone_nodup {a b : List Nat} (ha : a.Nodup) (hb : b.Nodup) : (alone a b).Nodup := by
  unfold alone
  rw [List.filter_append]
  refine List.nodup_append.mpr ⟨ha.filter _, hb.filter _, fun x hx y hy e => ?_⟩
  subst e
  have h1 := List.mem_filter.mp hx
  have h2 := List.mem_filter.mp hy
  have h3 := h1.2
  simp [h1.1, h2.1] at h3
theorem mem_alone {a b : List Nat} {p : Nat} : p ∈ alone a b ↔ (p ∈ a ∧ p ∉ b) ∨ (p ∉ a ∧ p ∈ b) := by
  unfold alone
  rw [List.mem_filter, List.mem_append]
  simp
  by_cases h1 : p ∈ a <;> by_cases h2 : p ∈ b <;> simp [h1, h2]
theorem low0 {r : Bool} {n : Nat} {a : List Nat} (ha : OrdOk r n a) (h : 0 ∈ a) : r = false := by
  have := (ha.bd 0 h).1
  cases r with
  | false => rfl
  | true => simp [low] at this
theorem one_zero {l : List Nat} (hn : l.Nodup) (h0 : ∀ x ∈ l, x = 0) (hne : l ≠ []) : l = [0] := by
  cases l with
  | nil => exact absurd rfl hne
  | cons x r =>
    cases r with
    | nil => rw [h0 x (by simp)]
    | cons y t =>
      have hx := h0 x (by simp)
      have hy := h0 y (by simp)
      have := (List.nodup_cons.mp hn).1
      exact absurd (by rw [hx, hy]; simp) this
theorem tell1 {r : Bool} {n : Nat} {a b : List Nat} (ha : OrdOk r n a) (hb : OrdOk r n b) (h : alone a b = [0]) : TrialOk r n (tw n [] 71) ∧ ¬ (val (tw n [] 71) a = 71 ↔ val (tw n [] 71) b = 71) := by
  have hm : 0 ∈ alone a b := by rw [h]; simp
  have hr : r = false := by
    rcases mem_alone.mp hm with q | q
    · exact low0 ha q.1
    · exact low0 hb q.2
  subst hr
  refine ⟨tw_ok (by simp) (fun q hq => by simp at hq), ?_⟩
  have sp : ∀ p, p ≤ n → p ≠ 0 → stAt (tw n [] 71) p = 80 := fun p h1 h2 => by rw [stAt_tw h1, if_neg h2]; rfl
  have s0 : stAt (tw n [] 71) 0 = 71 := by rw [stAt_tw (Nat.zero_le _), if_pos rfl]
  have yes : ∀ {c : List Nat}, OrdOk false n c → 0 ∈ c → val (tw n [] 71) c = 71 := fun {c} hc h0 => by
    obtain ⟨u, t, rfl⟩ := List.append_of_mem h0
    have hnd := List.nodup_append.mp hc.nd
    rw [val_at (fun p hp => sp p (hc.bd p (by simp [hp])).2 fun e => hnd.2.2 p hp 0 (by simp) e) (by rw [s0]; decide), s0]
  have no : ∀ {c : List Nat}, OrdOk false n c → 0 ∉ c → val (tw n [] 71) c = 80 := fun {c} hc h0 => val80.mpr fun p hp => sp p (hc.bd p hp).2 fun e => h0 (e ▸ hp)
  rcases mem_alone.mp hm with ⟨q1, q2⟩ | ⟨q1, q2⟩
  · rw [yes ha q1, no hb q2]; decide
  · rw [no ha q1, yes hb q2]; decide
theorem zero_ok (r : Bool) : ((if r then 80 else 75 : Nat) = 80 ↔ r = true) ∧ ((if r then 80 else 75 : Nat) = 71 ∨ (if r then 80 else 75 : Nat) = 75 ∨ (if r then 80 else 75 : Nat) = 80) := by cases r <;> simp
theorem tell2 {r : Bool} {n m : Nat} {a b : List Nat} (ha : OrdOk r n a) (hb : OrdOk r n b) (hm : m ∈ alone a b) (h0 : m ≠ 0) :
    TrialOk r n (tw n [(m, 71)] (if r then 80 else 75)) ∧ ¬ (val (tw n [(m, 71)] (if r then 80 else 75)) a = 71 ↔ val (tw n [(m, 71)] (if r then 80 else 75)) b = 71) := by
  refine ⟨tw_ok (zero_ok r) (fun q hq => by simp at hq; subst hq; exact .inl rfl), ?_⟩
  have sp : ∀ p, p ≤ n → p ≠ 0 → p ≠ m → stAt (tw n [(m, 71)] (if r then 80 else 75)) p = 80 := fun p h1 h2 h3 => by rw [stAt_tw h1, if_neg h2]; show (if p = m then 71 else 80) = 80; rw [if_neg h3]
  have sm : m ≤ n → stAt (tw n [(m, 71)] (if r then 80 else 75)) m = 71 := fun h1 => by rw [stAt_tw h1, if_neg h0]; show (if m = m then 71 else 80) = 71; rw [if_pos rfl]
  have s0 : stAt (tw n [(m, 71)] (if r then 80 else 75)) 0 ≠ 71 := by rw [stAt_tw (Nat.zero_le _), if_pos rfl]; cases r <;> decide
  have yes : ∀ {c : List Nat}, OrdOk r n c → m ∈ c → val (tw n [(m, 71)] (if r then 80 else 75)) c = 71 := fun {c} hc hmc => by
    have hmn := (hc.bd m hmc).2
    obtain ⟨u, t, rfl⟩ := List.append_of_mem hmc
    have hnd := List.nodup_append.mp hc.nd
    rw [val_at (fun p hp => sp p (hc.bd p (by simp [hp])).2 (fun e => hc.z.pre (e ▸ hp)) fun e => hnd.2.2 p hp m (by simp) e) (by rw [sm hmn]; decide), sm hmn]
  have no : ∀ {c : List Nat}, OrdOk r n c → m ∉ c → val (tw n [(m, 71)] (if r then 80 else 75)) c ≠ 71 := fun {c} hc hmc => by
    have key : ∀ c : List Nat, (∀ p ∈ c, p ≤ n) → m ∉ c → val (tw n [(m, 71)] (if r then 80 else 75)) c ≠ 71 := by
      intro c
      induction c with
      | nil => intro _ _; show (80 : Nat) ≠ 71; decide
      | cons p ps ih =>
        intro hb2 hm2
        show (if stAt _ p = 80 then val _ ps else stAt _ p) ≠ 71
        by_cases h : stAt (tw n [(m, 71)] (if r then 80 else 75)) p = 80
        · rw [if_pos h]; exact ih (fun q hq => hb2 q (by simp [hq])) fun hq => hm2 (by simp [hq])
        · rw [if_neg h]
          by_cases hp0 : p = 0
          · subst hp0; exact s0
          · exact absurd (sp p (hb2 p (by simp)) hp0 fun e => hm2 (by simp [e])) h
    exact key c (fun p hp => (hc.bd p hp).2) hmc
  rcases mem_alone.mp hm with ⟨q1, q2⟩ | ⟨q1, q2⟩
  · rw [yes ha q1]
    exact fun z => no hb q2 (z.mp rfl)
  · rw [yes hb q2]
    exact fun z => no ha q1 (z.mpr rfl)
theorem sub_len : ∀ {a b : List Nat}, a.Nodup → (∀ x ∈ a, x ∈ b) → a.length ≤ b.length
  | [], _, _, _ => Nat.zero_le _
  | x :: a, b, hn, h => by
    have hn' := List.nodup_cons.mp hn
    have := sub_len (a := a) (b := b.erase x) hn'.2 fun y hy => (List.mem_erase_of_ne (fun (e : y = x) => hn'.1 (e ▸ hy))).mpr (h y (by simp [hy]))
    have hl := List.length_erase_of_mem (h x (by simp))
    have hp : 0 < b.length := List.length_pos_of_mem (h x (by simp))
    simp
    omega
theorem same_len {a b : List Nat} (ha : a.Nodup) (hb : b.Nodup) (h : alone a b = []) : a.length = b.length ∧ ∀ x, x ∈ a ↔ x ∈ b := by
  have hs : ∀ x, x ∈ a ↔ x ∈ b := fun x => by
    have : x ∉ alone a b := by rw [h]; simp
    rw [mem_alone] at this
    by_cases h1 : x ∈ a <;> by_cases h2 : x ∈ b <;> simp_all
  exact ⟨Nat.le_antisymm (sub_len ha fun x hx => (hs x).mp hx) (sub_len hb fun x hx => (hs x).mpr hx), hs⟩
def diffs (a b : List Nat) : List Nat := (List.range a.length).filter fun i => decide (a.getD i 0 ≠ b.getD i 0)
theorem diffs_head {a b : List Nat} {i : Nat} {t : List Nat} (h : diffs a b = i :: t) : i < a.length ∧ a.getD i 0 ≠ b.getD i 0 ∧ ∀ j, j < i → a.getD j 0 = b.getD j 0 := by
  have hm : i ∈ diffs a b := by rw [h]; simp
  have h1 := List.mem_filter.mp hm
  have hi : i < a.length := by simpa using h1.1
  refine ⟨hi, by simpa using h1.2, fun j hj => ?_⟩
  apply Classical.byContradiction
  intro hne
  have hjm : j ∈ diffs a b := List.mem_filter.mpr ⟨List.mem_range.mpr (by omega), by simpa using hne⟩
  have hp : (diffs a b).Pairwise (· < ·) := List.Pairwise.filter _ List.pairwise_lt_range
  rw [h] at hjm hp
  rcases List.mem_cons.mp hjm with e | e
  · omega
  · have := (List.pairwise_cons.mp hp).1 j e
    omega
theorem diffs_ne {a b : List Nat} (hl : a.length = b.length) (h : a ≠ b) : diffs a b ≠ [] := fun e => h (by
  apply List.ext_getElem hl
  intro i h1 h2
  have : i ∉ diffs a b := by rw [e]; simp
  have hn : ¬ (a.getD i 0 ≠ b.getD i 0) := fun q => this (List.mem_filter.mpr ⟨List.mem_range.mpr h1, by simpa using q⟩)
  have hq : a.getD i 0 = b.getD i 0 := Classical.byContradiction hn
  rw [List.getD_eq_getElem?_getD, List.getD_eq_getElem?_getD, List.getElem?_eq_getElem h1, List.getElem?_eq_getElem h2] at hq
  exact hq)
theorem split_at {a : List Nat} {i : Nat} (h : i < a.length) : a = a.take i ++ a.getD i 0 :: a.drop (i + 1) := by
  have : a.getD i 0 = a[i] := by rw [List.getD_eq_getElem?_getD, List.getElem?_eq_getElem h]; rfl
  rw [this, List.getElem_cons_drop, List.take_append_drop]
theorem tell3 {r : Bool} {n i : Nat} {a b t : List Nat} (ha : OrdOk r n a) (hb : OrdOk r n b) (he : alone a b = []) (hd : diffs a b = i :: t) :
    a.getD i 0 ≠ b.getD i 0 ∧ TrialOk r n (tw n [(a.getD i 0, 71), (b.getD i 0, 75)] (if r then 80 else 75)) ∧ ¬ (val (tw n [(a.getD i 0, 71), (b.getD i 0, 75)] (if r then 80 else 75)) a = 71 ↔ val (tw n [(a.getD i 0, 71), (b.getD i 0, 75)] (if r then 80 else 75)) b = 71) := by
  obtain ⟨hl, hs⟩ := same_len ha.nd hb.nd he
  obtain ⟨hi, hne, hpre⟩ := diffs_head hd
  have ea := split_at hi
  have hib : i < b.length := by omega
  have eb := split_at hib
  have ept : a.take i = b.take i := by
    apply List.ext_getElem (by simp; omega)
    intro j h1 h2
    have hj : j < i := by simp at h1; omega
    have := hpre j hj
    rw [List.getD_eq_getElem?_getD, List.getD_eq_getElem?_getD, List.getElem?_eq_getElem (by omega), List.getElem?_eq_getElem (by omega)] at this
    rw [List.getElem_take, List.getElem_take]
    exact this
  generalize hg : a.getD i 0 = g at *
  generalize hk : b.getD i 0 = k at *
  have hga : g ∈ a := by rw [ea]; simp
  have hkb : k ∈ b := by rw [eb]; simp
  have nda := List.nodup_append.mp (ea ▸ ha.nd)
  have ndb := List.nodup_append.mp (eb ▸ hb.nd)
  have gpre : g ∉ a.take i := fun h => nda.2.2 g h g (by simp) rfl
  have kpre : k ∉ a.take i := fun h => ndb.2.2 k (ept ▸ h) k (by simp) rfl
  have za : Z0 (a.take i ++ g :: a.drop (i + 1)) := ea ▸ ha.z
  have zb : Z0 (b.take i ++ k :: b.drop (i + 1)) := eb ▸ hb.z
  have pre0 : 0 ∉ a.take i := za.pre
  -- k stands behind g in a, so g is not 0; and the other way about
  have hka : k ∈ a.drop (i + 1) := by
    have : k ∈ a := (hs k).mpr hkb
    rw [ea] at this
    rcases List.mem_append.mp this with q | q
    · exact absurd q kpre
    · rcases List.mem_cons.mp q with q | q
      · exact absurd q.symm hne
      · exact q
  have hgb : g ∈ b.drop (i + 1) := by
    have : g ∈ b := (hs g).mp hga
    rw [eb] at this
    rcases List.mem_append.mp this with q | q
    · exact absurd (ept ▸ q) gpre
    · rcases List.mem_cons.mp q with q | q
      · exact absurd q hne
      · exact q
  have g0 : g ≠ 0 := fun e => by
    have := ha.z i (by rw [List.getElem?_eq_getElem hi]; rw [List.getD_eq_getElem?_getD, List.getElem?_eq_getElem hi] at hg; rw [← e, ← hg]; rfl)
    rw [List.drop_of_length_le (by omega)] at hka
    simp at hka
  have k0 : k ≠ 0 := fun e => by
    have := hb.z i (by rw [List.getElem?_eq_getElem hib]; rw [List.getD_eq_getElem?_getD, List.getElem?_eq_getElem hib] at hk; rw [← e, ← hk]; rfl)
    rw [List.drop_of_length_le (by omega)] at hgb
    simp at hgb
  have gn := (ha.bd g hga).2
  have kn := (hb.bd k hkb).2
  refine ⟨hne, tw_ok (zero_ok r) (fun q hq => by simp at hq; rcases hq with rfl | rfl <;> simp), ?_⟩
  generalize hz : tw n [(g, 71), (k, 75)] (if r then 80 else 75) = z
  have sp : ∀ p ∈ a.take i, stAt z p = 80 := fun p hp => by
    have hpa : p ∈ a := List.mem_of_mem_take hp
    rw [← hz, stAt_tw (ha.bd p hpa).2, if_neg (fun (e : p = 0) => pre0 (e ▸ hp))]
    show (if p = g then 71 else if p = k then 75 else 80) = 80
    rw [if_neg (fun (e : p = g) => gpre (e ▸ hp)), if_neg (fun (e : p = k) => kpre (e ▸ hp))]
  have sg : stAt z g = 71 := by
    rw [← hz, stAt_tw gn, if_neg g0]
    show (if g = g then 71 else if g = k then 75 else 80) = 71
    rw [if_pos rfl]
  have sk : stAt z k = 75 := by
    rw [← hz, stAt_tw kn, if_neg k0]
    show (if k = g then 71 else if k = k then 75 else 80) = 75
    rw [if_neg (Ne.symm hne), if_pos rfl]
  have va : val z a = 71 := by rw [ea, val_at sp (by rw [sg]; decide), sg]
  have vb : val z b = 75 := by rw [eb, val_at (fun p hp => sp p (ept ▸ hp)) (by rw [sk]; decide), sk]
  rw [va, vb]
  decide
end Cp
set_option maxHeartbeats 4000000
/-! telling_trial. -/
namespace Cp
open PySem PySem.Spec PyProof.Rows L2
theorem shp_intsL (ns : List Nat) : SeqAt.shaped (.list (dI ns)) = true := by
  unfold SeqAt.shaped
  rw [show PyData.canLay0 (.list (dI ns)) = PyData.canLayAll0 (dI ns) from by simp [PyData.canLay0], canI, show PyData.depth (.list (dI ns)) = PyData.depthAll (dI ns) + 1 from by simp [PyData.depth], depI]
  rfl
theorem eq_intsL (ns ms : List Nat) : PyData.eqv (.list (dI ns)) (.list (dI ms)) = decide (ns = ms) := by
  rw [show PyData.eqv (.list (dI ns)) (.list (dI ms)) = PyData.eqvAll (dI ns) (dI ms) from by simp [PyData.eqv], eqvI]
theorem dp_intsL {K : PySem.W.Frag} {H : Hp} {a : Addr} {ns : List Nat} (h : SqL K H a (nInts ns)) : Dp K H (.ref a) (.list (dI ns)) := .lst h (dpAll_ints ns)
section
variable {P : Program} {w : World} {K : PySem.W.Frag} {mg : Str → Option Value} {base : Heap}
theorem rel_one {H : Hp} {t : Addr} {p c : Nat} (h : H t = some (.tup [.int (p : Nat), .str (st1 c)])) : Rel2 (fun a (c : Nat × Nat) => SqT K H a [.int (c.1 : Nat), .str (st1 c.2)]) [t] [(p, c)] :=
  Rel2.cons (R := fun a (c : Nat × Nat) => SqT K H a [.int (c.1 : Nat), .str (st1 c.2)]) (isT h) Rel2.nil
theorem rel_two {H : Hp} {t u : Addr} {p c q d : Nat} (h : H t = some (.tup [.int (p : Nat), .str (st1 c)])) (h' : H u = some (.tup [.int (q : Nat), .str (st1 d)])) : Rel2 (fun a (c : Nat × Nat) => SqT K H a [.int (c.1 : Nat), .str (st1 c.2)]) [t, u] [(p, c), (q, d)] :=
  Rel2.cons (R := fun a (c : Nat × Nat) => SqT K H a [.int (c.1 : Nat), .str (st1 c.2)]) (isT h) (rel_one h')
def spTell (K : PySem.W.Frag) : List V → List V → Hp → VK → Prop := fun vs zs H Q => ∃ (a b : Addr) (ps qs : List Nat) (n : Nat) (r : Bool), vs = [.ref a, .ref b] ∧ zs = [.int n, .bl r] ∧ n ≤ 24 ∧ OrdAt K H a ps ∧ OrdAt K H b qs ∧ OrdOk r n ps ∧ OrdOk r n qs ∧
  (ps = qs → ∀ H', Same H H' → Q .non H') ∧ (ps ≠ qs → ∀ z H', Same H H' → TrialOk r n z → ¬ (val z ps = 71 ↔ val z qs = 71) → Q (.str (sOf z)) H')
theorem sc_telling_trial : FnScope ["first", "second", "n", "ring", "one", "other", "alone", "zero", "place", "position", "index"] ["first", "second", "n", "ring"] (defScope s_telling_trial) := ⟨rfl, rfl, rfl, by decide +kernel, rfl, by decide +kernel, by decide +kernel⟩
theorem ok_telling_trial (T : Txt w K mg) : FnRW P w K mg base 3 (gA "telling_trial" K) ["n", "ring"] (spTell K) := by
  obtain ⟨fd, F⟩ := T.f_telling_trial
  refine mkRWN F sc_telling_trial (fun kV doc pm an cdv ct us ws hl hl2 => match us, ws, hl, hl2 with | [_, _], [_, _], _, _ => rfl) (fun vs zs H Q h => ?_) fun cdv A outer s H vs zs Q hr h => ?_
  · obtain ⟨a, b, ps, qs, n, r, rfl, rfl, _⟩ := h
    exact ⟨rfl, rfl⟩
  · obtain ⟨a, b, ps, qs, n, r, rfl, rfl, hn, ⟨da, ta, ia, qa⟩, ⟨db, tb, ib, qb⟩, ka, kb, q1, q2⟩ := h
    have nd := sc_telling_trial.nd
    refine ⟨_, (pss_cons (ps_asg (pe_tup (pa_cons (rf_prop (pv 0) T.cl_Order T.p_Order_positions (ok_Order_positions T) hr) (pa_cons (rf_prop (pv 1) T.cl_Order T.p_Order_positions (ok_Order_positions T) hr) pa_nil))) (pg_tup rfl (pgs_cons (pg_name (i := 4) nd rfl (Or.inr rfl)) (pgs_cons (pg_name (i := 5) nd rfl (Or.inr rfl)) pgs_nil))))
      (pss_cons (ps_if (pt_cmpR (op_eqD hr.units) (pv 4) (pv 5) (nomark _)) (pss_one (ps_ret pe_non)) pss_nil)
      (pss_cons (ps_setLc (i := 6) (own := [("position", 9)]) (g := (gName 9)) (tt := (tOr (tTest (tOp (rIn K true) (tVar 9) (tVar 4))) (tTest (tOp (rIn K true) (tVar 9) (tVar 5))))) (te := (tVar 9)) rfl nd rfl rfl (sw_true rfl rfl rfl (by decide +kernel)) (pi_tup (pe_tup (pa_star0 (pv 4) (pa_star0 (pv 5) pa_nil)))) (blkOk_by (N := ["first", "second", "n", "ring", "one", "other", "alone", "zero", "place", "position", "index"]) (sc := defScope s_telling_trial) (by decide +kernel)) (fun _ _ _ _ _ => (pg_name (i := 9) nd rfl (Or.inl rfl))) (fun _ _ _ _ _ => (pts_one (PW.pt (pw_or (pt_cmpR op_notIn_seq (pv 9) (pv 4) (by rfl)) (pw_or1 (pt_cmpR op_notIn_seq (pv 9) (pv 5) (by rfl))))))) (fun _ _ _ _ _ => (pv 9)))
      (pss_cons (ps_if (pt_cmpR (op_eqD hr.units) (pv 6) (pe_lst (pa_cons pe_int pa_nil)) (nomark _)) (pss_one (ps_ret (rf_callW (ok_trial_with T) hr T.g_trial_with T.k_trial_with (pa_cons (pv 2) pa_nil) (pk_cons (pe_gs T.c_GENERATE) pk_nil)))) pss_nil)
      (pss_cons (ps_set (i := 7) nd rfl (Or.inl rfl) (rf_call (ok_zero_state T) hr T.g_zero_state T.k_zero_state (pa_cons (pv 3) pa_nil)))
      (pss_cons (ps_if (pt_cmpR (op_ne0 hr.units) (pv 6) (pe_lst pa_nil) (nomark _)) (pss_one (ps_ret (rf_callW (ok_trial_with T) hr T.g_trial_with T.k_trial_with (pa_cons (pv 2) (pa_cons (pe_tup (pa_cons (pe_callB (cr_max rfl) (by rfl) T.b_max (by decide +kernel) (pa_cons (pv 6) pa_nil)) (pa_cons (pe_gs T.c_GENERATE) pa_nil))) pa_nil)) (pk_cons (pv 7) pk_nil)))) pss_nil)
      (pss_cons (ps_set (i := 8) nd rfl (Or.inl rfl) (pe_ix ix_list (pe_lc (own := [("index", 10), ("position", 9)]) (g := (gTup K 2 (gCons (gName 10) (gCons (gName 9) gNil)))) (tt := (tTest (tOp rNe (tVar 9) (tOp (rIxT K) (tVar 5) (tVar 10))))) (te := (tVar 10)) rfl nd (pi_enumT (by rfl) T.b_enumerate (pa_cons (pv 4) pa_nil)) (blkOk_by (N := ["first", "second", "n", "ring", "one", "other", "alone", "zero", "place", "position", "index"]) (sc := defScope s_telling_trial) (by decide +kernel)) (fun _ _ _ _ _ => (pg_tup rfl (pgs_cons (pg_name (i := 10) nd rfl (Or.inl rfl)) (pgs_cons (pg_name (i := 9) nd rfl (Or.inl rfl)) pgs_nil)))) (fun _ _ _ _ _ => (pts_one (pt_cmpR op_ne (pv 9) (pe_ix ix_tup (pv 5) (pv 10) (fun _ _ => rfl)) (nomark _)))) (fun _ _ _ _ _ => (pv 10))) pe_int (fun _ _ => rfl)))
      (pss_one (ps_ret (rf_callW (ok_trial_with T) hr T.g_trial_with T.k_trial_with (pa_cons (pv 2) (pa_cons (pe_tup (pa_cons (pe_ix ix_tup (pv 4) (pv 8) (fun _ _ => rfl)) (pa_cons (pe_gs T.c_GENERATE) pa_nil))) (pa_cons (pe_tup (pa_cons (pe_ix ix_tup (pv 5) (pv 8) (fun _ _ => rfl)) (pa_cons (pe_gs T.c_KILL) pa_nil))) pa_nil))) (pk_cons (pv 7) pk_nil))))))))))), ?_⟩
    have lpa := ka.len
    have lpb := kb.len
    refine ⟨_, rfl, a, da, _, rfl, ia, a, ps, rfl, ⟨da, ta, ia, qa⟩, fun t1 ht1 => ?_⟩
    refine ⟨_, rfl, b, db, _, rfl, ib, b, qs, rfl, ⟨db, tb, ib, qb⟩, fun t2 ht2 => ⟨by show 2 ≤ sizeLine; decide, fun t3 ht3 => ?_⟩⟩
    have s1 := Same.new (o := .tup [.ref t1, .ref t2]) ht3
    refine ⟨t3, _, rfl, isT upd_same, rfl, _, _, rfl, _, _, rfl, rfl, ?_⟩
    generalize upd H t3 (.tup [.ref t1, .ref t2]) = H1 at s1 ⊢
    have h1 := Same.sqt s1 ht1
    have h2 := Same.sqt s1 ht2
    refine ⟨_, rfl, _, rfl, _, _, dp_ints h1, dp_ints h2, shp_ints _, shp_ints _, _, rfl, ?_⟩
    rw [eq_ints]
    by_cases hpq : ps = qs
    · rw [decide_eq_true hpq]
      exact iteT (q1 hpq _ s1)
    rw [decide_eq_false hpq]
    refine iteF ?_
    refine ⟨_, rfl, t1, _, rfl, .inl h1, _, rfl, t2, _, rfl, .inl h2, ?_⟩
    have exs : nInts ps ++ (nInts qs ++ []) = nInts (ps ++ qs) := by rw [List.append_nil, ← nInts_append]
    refine ⟨by rw [exs, nInts_len]; simp; exact sz10 (by omega), fun t4 ht4 => ?_⟩
    have s2 := s1.trans (Same.new (o := .tup (nInts ps ++ (nInts qs ++ []))) ht4)
    have h1 := Same.sqt (Same.new (o := .tup (nInts ps ++ (nInts qs ++ []))) ht4) h1
    have h2 := Same.sqt (Same.new (o := .tup (nInts ps ++ (nInts qs ++ []))) ht4) h2
    have h4 : upd H1 t4 (.tup (nInts ps ++ (nInts qs ++ []))) t4 = some (.tup (nInts (ps ++ qs))) := by rw [upd_same, exs]
    generalize upd H1 t4 (.tup (nInts ps ++ (nInts qs ++ []))) = H2 at s2 h1 h2 h4 ⊢
    refine ⟨t4, rfl, ⟨_, isT h4⟩, fun D hD => ?_⟩
    refine lc_pure (items := ps ++ qs) hD (w := by have w := walk_tup (K := K) (a := t4) (xs := nInts (ps ++ qs)); rwa [nInts_len] at w) (fun p => decide (p ∉ ps ∨ p ∉ qs)) (fun _ v p => v = .int (p : Nat)) (fun _ _ _ _ _ h => h) (sz7 (by simp; omega)) (fun H4 s4 => isT (s4 _ _ h4)) (fun i x ex H4 s4 Ky Kn hy hn2 v H' y => ?_) (fun acc H3 s3 hd3 rel3 => ?_)
    · obtain ⟨rfl, hx⟩ := y
      obtain ⟨o', ho', rfl⟩ := nInts_get hx
      rw [ex] at ho'
      cases ho'
      refine ⟨rfl, _, rfl, _, rfl, t1, _, rfl, .inr (Same.sqt s4 h1), rfl, flat_ints _, _, rfl, ?_⟩
      rw [inV_ints]
      by_cases e1 : x ∈ ps
      · rw [decide_eq_true e1]
        refine iteF ⟨_, rfl, _, rfl, t2, _, rfl, .inr (Same.sqt s4 h2), rfl, flat_ints _, _, rfl, ?_⟩
        rw [inV_ints]
        by_cases e2 : x ∈ qs
        · rw [decide_eq_true e2]
          exact iteF (hn2 _ (Same.refl _) (decide_eq_false (by simp [e1, e2])))
        · rw [decide_eq_false e2]
          exact iteT ⟨_, rfl, hy _ _ (Same.refl _) rfl (decide_eq_true (.inr e2))⟩
      · rw [decide_eq_false e1]
        exact iteT (iteT ⟨_, rfl, hy _ _ (Same.refl _) rfl (decide_eq_true (.inl e1))⟩)
    have ea : acc = nInts (alone ps qs) := by rw [rel_map rel3]; rfl
    subst ea
    have s3' := s2.trans s3
    have hal : (alone ps qs).length ≤ 50 := Nat.le_trans (List.length_filter_le _ _) (by simp; omega)
    refine ⟨_, rfl, by show 1 ≤ sizeLine; decide, fun p5 hp5 => ?_⟩
    have s5 := Same.new (o := .lst [.int 0]) hp5
    have hd5 := s5 _ _ hd3
    have h5 : upd H3 p5 (.lst [.int 0]) p5 = some (.lst (nInts [0])) := upd_same
    refine ⟨_, _, dp_intsL (isL hd5), dp_intsL (isL h5), shp_intsL _, shp_intsL _, _, rfl, ?_⟩
    rw [eq_intsL]
    have s5' := s3'.trans s5
    generalize upd H3 p5 (.lst [.int 0]) = H5 at s5 hd5 h5 s5' ⊢
    by_cases hz0 : alone ps qs = [0]
    · rw [decide_eq_true hz0]
      refine iteT ⟨_, rfl, n, 71, [], [], rfl, by rw [sG], hn, by simp, .nil, Rel2.nil, fun H' s' => ?_⟩
      obtain ⟨w1, w2⟩ := tell1 ka kb hz0
      exact q2 hpq _ H' (s5'.trans s') w1 w2
    rw [decide_eq_false hz0]
    refine iteF ?_
    refine ⟨_, rfl, r, rfl, ?_⟩
    refine ⟨_, rfl, by show 0 ≤ sizeLine; decide, fun p6 hp6 => ?_⟩
    have s6 := Same.new (o := .lst []) hp6
    have hd6 := s6 _ _ hd5
    have h6 : upd H5 p6 (.lst []) p6 = some (.lst []) := upd_same
    have s6' := s5'.trans s6
    generalize upd H5 p6 (.lst []) = H6 at s6 hd6 h6 s6' ⊢
    refine ⟨D, p6, _, rfl, rfl, .inl ⟨isL hd6, isL h6⟩, _, rfl, ?_⟩
    by_cases he : alone ps qs = []
    · rw [show (!(nInts (alone ps qs)).isEmpty) = false by rw [he]; rfl]
      refine iteF ?_
      obtain ⟨hl, hs⟩ := same_len ka.nd kb.nd he
      have hdne := diffs_ne hl hpq
      have s06 : Same H2 H6 := (s3.trans s5).trans s6
      have h1 := Same.sqt s06 h1
      have h2 := Same.sqt s06 h2
      refine ⟨_, rfl, t1, _, rfl, .inr ⟨h1, fun D2 hD2 => ?_⟩⟩
      refine lc_pure (items := List.range ps.length) hD2 (w := by have w := walk_enumT (K := K) (a := t1) (xs := nInts ps); rwa [nInts_len, ← List.length_range (n := ps.length)] at w) (fun i => decide (ps.getD i 0 ≠ qs.getD i 0)) (fun _ v i => v = .int (i : Nat)) (fun _ _ _ _ _ h => h) (by rw [List.length_range]; exact sz7 (by omega)) (fun H7 s7 => Same.sqt s7 h1) (fun i x ex H7 s7 Ky Kn hy hn2 v H' y => ?_) (fun acc H7 s7 hd7 rel7 => ?_)
      · obtain ⟨rfl, hi⟩ := range_get ex
        obtain ⟨T', i', q', rfl, hT, rfl, ei, hx⟩ := y
        obtain ⟨pp, hpp, rfl⟩ := nInts_get hx
        cases ei
        have e1 : ps.getD x 0 = pp := getD_of hpp
        have hqq : qs[x]? = some (qs.getD x 0) := by rw [List.getD_eq_getElem?_getD, List.getElem?_eq_getElem (by omega)]; rfl
        have sT : Same H7 (upd H7 T' (.tup [.int (x : Nat), .int (pp : Nat)])) := Same.new hT
        refine ⟨T', _, rfl, isT upd_same, rfl, _, _, rfl, _, _, rfl, rfl, rfl, ?_⟩
        refine ⟨_, rfl, _, rfl, _, rfl, t2, _, (x : Int), _, rfl, rfl, Same.sqt (s7.trans sT) h2, atI_nat (get_nInts hqq), rfl, _, rfl, ?_⟩
        rw [dInt]
        by_cases hne : ps.getD x 0 = qs.getD x 0
        · rw [decide_eq_true (by omega)]
          exact iteF (hn2 _ sT (decide_eq_false fun z => z hne))
        · rw [decide_eq_false (by omega)]
          exact iteT ⟨_, rfl, hy _ _ sT rfl (decide_eq_true hne)⟩
      have ea7 : acc = nInts (diffs ps qs) := by rw [rel_map rel7]; rfl
      subst ea7
      cases hdd : diffs ps qs with
      | nil => exact absurd hdd hdne
      | cons i t =>
        obtain ⟨hi, hne, hpre⟩ := diffs_head hdd
        rw [hdd] at hd7
        obtain ⟨w0, w1, w2⟩ := tell3 ka kb he hdd
        have e1 : ps[i]? = some (ps.getD i 0) := by rw [List.getD_eq_getElem?_getD, List.getElem?_eq_getElem (by omega)]; rfl
        have e2 : qs[i]? = some (qs.getD i 0) := by rw [List.getD_eq_getElem?_getD, List.getElem?_eq_getElem (by omega)]; rfl
        refine ⟨D2, _, 0, _, rfl, rfl, isL hd7, atI_nat (i := 0) rfl, ?_⟩
        have h1 := Same.sqt s7 h1
        have h2 := Same.sqt s7 h2
        refine ⟨_, rfl, _, rfl, _, rfl, t1, _, (i : Int), _, rfl, rfl, h1, atI_nat (get_nInts e1), by show 2 ≤ sizeLine; decide, fun t8 ht8 => ?_⟩
        have s8 := Same.new (o := .tup [.int (ps.getD i 0 : Nat), .str ("G" : Str)]) ht8
        have h8 : upd H7 t8 (.tup [.int (ps.getD i 0 : Nat), .str ("G" : Str)]) t8 = some (.tup [.int (ps.getD i 0 : Nat), .str (st1 71)]) := by rw [upd_same, sG]
        generalize upd H7 t8 (.tup [.int (ps.getD i 0 : Nat), .str ("G" : Str)]) = H8 at s8 h8 ⊢
        refine ⟨_, rfl, _, rfl, t2, _, (i : Int), _, rfl, rfl, Same.sqt s8 h2, atI_nat (get_nInts e2), by show 2 ≤ sizeLine; decide, fun t9 ht9 => ?_⟩
        have s9 := Same.new (o := .tup [.int (qs.getD i 0 : Nat), .str ("K" : Str)]) ht9
        have h9 : upd H8 t9 (.tup [.int (qs.getD i 0 : Nat), .str ("K" : Str)]) t9 = some (.tup [.int (qs.getD i 0 : Nat), .str (st1 75)]) := by rw [upd_same, sK]
        generalize upd H8 t9 (.tup [.int (qs.getD i 0 : Nat), .str ("K" : Str)]) = H9 at s9 h9 ⊢
        have sF := ((s6'.trans s7).trans s8).trans s9
        refine ⟨_, rfl, n, (if r then 80 else 75), [t8, t9], [(ps.getD i 0, 71), (qs.getD i 0, 75)], rfl, rfl, hn, by simp, by simpa using w0, rel_two (s9 _ _ h8) h9, fun H' s' => q2 hpq _ H' (sF.trans s') w1 w2⟩
    · rw [show (!(nInts (alone ps qs)).isEmpty) = true by
        cases hc : alone ps qs with
        | nil => exact absurd hc he
        | cons x t => rfl]
      refine iteT ?_
      have ens : nInts (alone ps qs) = ((alone ps qs).map fun p : Nat => (p : Int)).map V.int := by simp [nInts]
      refine ⟨_, rfl, _, rfl, D, (alone ps qs).map fun p : Nat => (p : Int), rfl, isL (by rw [← ens]; exact hd6), by simpa using List.length_pos_iff.mpr he, fun m hm hmax => ?_⟩
      obtain ⟨m', hm', rfl⟩ := List.mem_map.mp hm
      have hm0 : m' ≠ 0 := fun e => hz0 (one_zero (alone_nodup ka.nd kb.nd) (fun x hx => by
        have := hmax (x : Int) (List.mem_map.mpr ⟨x, hx, rfl⟩)
        omega) he)
      obtain ⟨w1, w2⟩ := tell2 ka kb hm' hm0
      refine ⟨by show 2 ≤ sizeLine; decide, fun t8 ht8 => ?_⟩
      have s8 := Same.new (o := .tup [.int (m' : Nat), .str ("G" : Str)]) ht8
      have h8 : upd H6 t8 (.tup [.int (m' : Nat), .str ("G" : Str)]) t8 = some (.tup [.int (m' : Nat), .str (st1 71)]) := by rw [upd_same, sG]
      generalize upd H6 t8 (.tup [.int (m' : Nat), .str ("G" : Str)]) = H8 at s8 h8 ⊢
      have sF := s6'.trans s8
      exact ⟨_, rfl, n, (if r then 80 else 75), [t8], [(m', 71)], rfl, rfl, hn, by simp, by simp, rel_one h8, fun H' s' => q2 hpq _ H' (sF.trans s') w1 w2⟩
end
end Cp
/-! The law's tap, follow, orders, between. -/
namespace Cp
open PySem PySem.Spec PyProof.Rows L2
structure Tap (t l : Addr) (ns : List Int) (T : Nat) (H : Hp) : Prop where
  at_ : ∃ (turn : Nat) (bank : Int), H t = some (.lst [.ref l, .int (turn : Nat), .int bank]) ∧ 0 ≤ bank ∧ turn ≤ T
  ls : H l = some (.lst (ns.map V.int))
  ne : t ≠ l
  few : ns.length ≤ 63
theorem Tap.more {t l : Addr} {ns : List Int} {T T' : Nat} {H : Hp} (h : Tap t l ns T H) (hT : T ≤ T') : Tap t l ns T' H :=
  ⟨let ⟨a, b, c, d, e⟩ := h.at_; ⟨a, b, c, d, Nat.le_trans e hT⟩, h.ls, h.ne, h.few⟩
theorem Tap.mono {t l : Addr} {ns : List Int} {T : Nat} {H H' : Hp} (s : Same H H') (h : Tap t l ns T H) : Tap t l ns T H' :=
  ⟨let ⟨a, b, c, d, e⟩ := h.at_; ⟨a, b, s _ _ c, d, e⟩, s _ _ h.ls, h.ne, h.few⟩
theorem Tap.off {t l D : Addr} {ns : List Int} {T : Nat} {H : Hp} {o : HO} (h : Tap t l ns T H) (h1 : t ≠ D) (h2 : l ≠ D) : Tap t l ns T (upd H D o) :=
  ⟨let ⟨a, b, c, d, e⟩ := h.at_; ⟨a, b, by rw [upd_ne h1]; exact c, d, e⟩, by rw [upd_ne h2]; exact h.ls, h.ne, h.few⟩
section
variable {P : Program} {w : World} {K : PySem.W.Frag} {mg : Str → Option Value} {base : Heap}
def spTap (K : PySem.W.Frag) : Sp := fun vs H Q _ => ∃ (s : Addr) (ns : List Int), vs = [.ref s] ∧ SqL K H s (ns.map V.int) ∧ ∀ H' t l, Same H H' → H t = none → H l = none → Tap t l (ns.take 63) 0 H' → Q (.ref t) H'
theorem sc_law_tap : FnScope ["_law_script"] ["_law_script"] (defScope s_law_tap) := ⟨rfl, rfl, rfl, by decide +kernel, rfl, by decide +kernel, by decide +kernel⟩
theorem ok_law_tap (T : Txt w K mg) : FnR P w K mg base CX0 1 (gA "_law_tap" K) (spTap K) := by
  obtain ⟨fd, F⟩ := T.f_law_tap
  refine mkR F sc_law_tap (fun _ _ _ _ _ _ us hl => match us, hl with | [_], _ => rfl) (fun vs H Q E h => ?_) (fun cdv A outer s H vs Q E hr h => ?_)
  · obtain ⟨s, ns, rfl, _⟩ := h
    rfl
  · obtain ⟨s0, ns, rfl, hs, q⟩ := h
    have nd := sc_law_tap.nd
    refine ⟨_, (pss_one (ps_ret (pe_lst (pa_cons (pe_callTy call_list_of (by rfl) T.b_list (by decide +kernel) (pa_cons (pe_slice sl_list (pv 0) po_none (po_some pe_int)) pa_nil)) (pa_cons pe_int (pa_cons pe_int pa_nil)))))), ?_⟩
    refine ⟨_, rfl, 63, rfl, s0, _, rfl, hs, fun l1 h1 => ?_⟩
    have ecut : cutV (ns.map V.int) none (some 63) = (ns.take 63).map V.int := by
      unfold cutV
      rw [HT.sIx_none, show (63 : Int) = ((63 : Nat) : Int) from rfl, HT.sIx_nat, List.drop_zero, Nat.sub_zero, List.map_take]
      rcases Nat.le_total 63 (ns.map V.int).length with h | h
      · rw [Nat.min_eq_left h]
      · rw [Nat.min_eq_right h, List.take_of_length_le (Nat.le_refl _), List.take_of_length_le h]
    rw [ecut]
    have s1 := Same.new (o := .lst ((ns.take 63).map V.int)) h1
    have e1 : upd H l1 (.lst ((ns.take 63).map V.int)) l1 = some (.lst ((ns.take 63).map V.int)) := upd_same
    generalize upd H l1 (.lst ((ns.take 63).map V.int)) = H1 at s1 e1 ⊢
    refine ⟨l1, _, rfl, .inl (isL e1), fun l2 h2 => ?_⟩
    have s2' := Same.new (o := .lst ((ns.take 63).map V.int)) h2
    have e2 : upd H1 l2 (.lst ((ns.take 63).map V.int)) l2 = some (.lst ((ns.take 63).map V.int)) := upd_same
    generalize upd H1 l2 (.lst ((ns.take 63).map V.int)) = H2 at s2' e2 ⊢
    have s2 := s1.trans s2'
    refine ⟨by show 3 ≤ sizeLine; decide, fun t ht => ?_⟩
    have htl : t ≠ l2 := fun z => by rw [z, e2] at ht; cases ht
    exact q _ t l2 (s2.trans (Same.new ht)) (s2.free ht) (s1.free h2) ⟨⟨0, 0, upd_same, Int.le_refl _, Nat.le_refl _⟩, Same.new ht _ _ e2, htl, by rw [List.length_take]; omega⟩
def spNext (K : PySem.W.Frag) : Sp := fun vs H Q _ => ∃ (t l : Addr) (ns : List Int) (T m : Nat), vs = [.ref t, .int m] ∧ Tap t l ns T H ∧ 0 < m ∧ m ≤ 100000 ∧ T ≤ 100000 ∧ ∀ H' (v : Nat), SameX [t] H H' → Ext H H' → Tap t l ns (T + 1) H' → v < m → Q (.int v) H'
theorem sc_law_next : FnScope ["_law_tap_here", "_law_many", "_law_turn", "_law_part", "_law_mixed", "_law_digit", "_law_great"] ["_law_tap_here", "_law_many"] (defScope s_law_next) := ⟨rfl, rfl, rfl, by decide +kernel, rfl, by decide +kernel, by decide +kernel⟩
theorem ok_law_next (T : Txt w K mg) : FnR P w K mg base CX0 1 (gA "_law_next" K) (spNext K) := by
  obtain ⟨fd, F⟩ := T.f_law_next
  refine mkR F sc_law_next (fun _ _ _ _ _ _ us hl => match us, hl with | [_, _], _ => rfl) (fun vs H Q E h => ?_) (fun cdv A outer s H vs Q E hr h => ?_)
  · obtain ⟨t, l, ns, T0, m, rfl, _⟩ := h
    rfl
  · obtain ⟨t, l, ns, T0, m, rfl, ⟨⟨turn, bank, ht, hb, htu⟩, hl, hne, hfew⟩, hm0, hm1, hT, q⟩ := h
    have nd := sc_law_next.nd
    have nn : ∀ x : Int, ∃ v : Nat, x % (m : Int) = (v : Int) ∧ v < m := fun x => ⟨(x % (m : Int)).toNat, by have := Int.emod_nonneg x (show (m : Int) ≠ 0 by omega); omega, by have := Int.emod_nonneg x (show (m : Int) ≠ 0 by omega); have := Int.emod_lt_of_pos x (show (0 : Int) < m by omega); omega⟩
    refine ⟨_, (pss_cons (ps_if (pt_cmpR op_gt (pe_ix ix_list (pv 0) pe_int (fun _ _ => rfl)) pe_int (nomark _)) (pss_cons (ps_set (i := 5) nd rfl (Or.inl rfl) (pe_op op_mod (pe_ix ix_list (pv 0) pe_int (fun _ _ => rfl)) (pv 1)))
      (pss_cons (ps_asg (pe_op op_fdiv (pe_ix ix_list (pv 0) pe_int (fun _ _ => rfl)) (pv 1)) (pg_sub (pv 0) pe_int set_list))
      (pss_one (ps_ret (pv 5))))) pss_nil)
      (pss_cons (ps_set (i := 2) nd rfl (Or.inl rfl) (pe_ix ix_list (pv 0) pe_int (fun _ _ => rfl)))
      (pss_cons (ps_asg (pe_op op_add (pv 2) pe_int) (pg_sub (pv 0) pe_int set_list))
      (pss_cons (ps_set (i := 3) nd rfl (Or.inl rfl) (pe_op op_add (pe_op op_mul pe_int (pv 2)) pe_int))
      (pss_cons (ps_if (pt_cmpR (op_ne0 hr.units) (pe_ix ix_list (pv 0) pe_int (fun _ _ => rfl)) (pe_lst pa_nil) (nomark _)) (pss_one (ps_set (i := 3) nd rfl (Or.inl rfl) (pe_ix ix_list (pe_ix ix_list (pv 0) pe_int (fun _ _ => rfl)) (pe_op op_mod (pv 2) (pe_callB call_len (by rfl) T.b_len (by decide +kernel) (pa_cons (pe_ix ix_list (pv 0) pe_int (fun _ _ => rfl)) pa_nil))) (fun _ _ => rfl)))) pss_nil)
      (pss_cons (ps_if (PW.pt (pw_and (pt_cmpR op_lt (pv 2) (pe_callB call_len (by rfl) T.b_len (by decide +kernel) (pa_cons (pe_ix ix_list (pv 0) pe_int (fun _ _ => rfl)) pa_nil)) (nomark _)) (pw_and1 (pt_cmpR op_ge (pe_callB call_abs (by rfl) T.b_abs (by decide +kernel) (pa_cons (pv 3) pa_nil)) (pe_op op_pow pe_int pe_int) (nomark _))))) (pss_cons (ps_set (i := 6) nd rfl (Or.inl rfl) (pe_op op_add (pe_op op_mul pe_int (pe_callB call_abs (by rfl) T.b_abs (by decide +kernel) (pa_cons (pv 3) pa_nil))) (pe_callTy call_int1 (by rfl) T.b_int (by decide +kernel) (pa_cons (pe_cmpR op_lt (pv 3) pe_int (nomark _)) pa_nil))))
      (pss_cons (ps_asg (pe_op op_fdiv (pv 6) (pv 1)) (pg_sub (pv 0) pe_int set_list))
      (pss_one (ps_ret (pe_op op_mod (pv 6) (pv 1)))))) pss_nil)
      (pss_cons (ps_set (i := 4) nd rfl (Or.inl rfl) (pe_op op_mod (pe_op op_pow (pe_op op_add (pe_op op_add (pe_op op_mod (pv 3) pe_int) (pe_op op_mul pe_int (pv 2))) pe_int) pe_int) pe_int))
      (pss_cons (ps_set (i := 4) nd rfl (Or.inl rfl) (pe_op op_mod (pe_op op_pow (pe_op op_add (pe_op op_add (pe_op op_mul (pv 4) (pe_op op_add (pe_op op_mul pe_int (pv 2)) pe_int)) (pe_op op_mul (pe_op op_mul pe_int (pv 2)) (pv 2))) pe_int) pe_int) pe_int))
      (pss_one (ps_ret (pe_op op_mod (pe_op op_fdiv (pv 4) pe_int) (pv 1)))))))))))), ?_⟩
    refine ⟨_, rfl, t, _, 2, _, rfl, rfl, isL ht, rfl, _, _, rfl, rfl, _, rfl, ?_⟩
    by_cases hb0 : 0 < bank
    · rw [decide_eq_true hb0]
      refine iteT ?_
      refine ⟨_, rfl, t, _, 2, _, rfl, rfl, isL ht, rfl, _, rfl, _, _, rfl, rfl, by omega, ?_⟩
      refine ⟨_, rfl, t, _, 2, _, rfl, rfl, isL ht, rfl, _, rfl, _, _, rfl, rfl, ⟨by omega, by omega⟩, _, rfl, t, _, 2, 2, rfl, rfl, ht, rfl, ?_⟩
      obtain ⟨v, hv, hvm⟩ := nn bank
      refine ⟨_, rfl, ?_⟩
      show Q (.int (bank % (m : Int))) _
      rw [hv]
      refine q _ v ((SameX.refl _).at_ (by simp)) (Ext.lst ht) ⟨⟨turn, bank / (m : Int), upd_same, Int.ediv_nonneg (by omega) (by omega), by omega⟩, by rw [upd_ne (Ne.symm hne)]; exact hl, hne, hfew⟩ hvm
    · rw [decide_eq_false hb0]
      refine iteF ?_
      have hbank : bank = 0 := by omega
      subst hbank
      refine ⟨_, rfl, t, _, 1, _, rfl, rfl, isL ht, rfl, ?_⟩
      refine ⟨_, rfl, _, _, rfl, rfl, _, rfl, t, _, 1, 1, rfl, rfl, ht, rfl, ?_⟩
      have e1 : upd H t (.lst ([V.ref l, V.int (turn : Nat), V.int 0].set 1 (V.int ((turn : Nat) + 1)))) t = some (.lst [.ref l, .int ((turn + 1 : Nat) : Int), .int 0]) := by rw [upd_same]; rfl
      have l1 : upd H t (.lst ([V.ref l, V.int (turn : Nat), V.int 0].set 1 (V.int ((turn : Nat) + 1)))) l = some (.lst (ns.map V.int)) := by rw [upd_ne (Ne.symm hne)]; exact hl
      have s1 : SameX [t] H (upd H t (.lst ([V.ref l, V.int (turn : Nat), V.int 0].set 1 (V.int ((turn : Nat) + 1))))) := (SameX.refl _).at_ (by simp)
      have x1 : Ext H (upd H t (.lst ([V.ref l, V.int (turn : Nat), V.int 0].set 1 (V.int ((turn : Nat) + 1))))) := Ext.lst ht
      generalize upd H t (.lst ([V.ref l, V.int (turn : Nat), V.int 0].set 1 (V.int ((turn : Nat) + 1)))) = H1 at e1 l1 s1 x1 ⊢
      have fin : ∀ (H2 : Hp) (x : Int), Same H1 H2 → Q (.int (x % (m : Int))) H2 := fun H2 x s2 => by
        obtain ⟨v, hv, hvm⟩ := nn x
        rw [hv]
        exact q H2 v (s1.trans (SameX.of s2)) (x1.trans (Same.ext s2)) ⟨⟨turn + 1, 0, s2 _ _ e1, Int.le_refl _, by omega⟩, s2 _ _ l1, hne, hfew⟩ hvm
      refine ⟨_, rfl, _, _, rfl, rfl, .inl ⟨by omega, by omega⟩, _, _, rfl, rfl, ?_⟩
      refine ⟨_, rfl, t, _, 0, _, rfl, rfl, isL e1, rfl, by show 0 ≤ sizeLine; decide, fun p hp => ⟨l, p, _, rfl, rfl, .inl ⟨isL (Same.new hp _ _ l1), isL upd_same⟩, _, rfl, ?_⟩⟩
      have s2 := Same.new (o := .lst []) hp
      generalize upd H1 p (.lst []) = H2 at s2 ⊢
      have e2 := s2 _ _ e1
      have l2 := s2 _ _ l1
      by_cases hns : ns = []
      · -- no script
        rw [show (!(ns.map V.int).isEmpty) = false by rw [hns]; rfl]
        refine iteF ?_
        refine ⟨_, rfl, _, rfl, t, _, 0, _, rfl, rfl, isL e2, rfl, _, 0, rfl, .inl ⟨_, isL l2, by rw [hns]; rfl⟩, _, _, rfl, rfl, _, rfl, ?_⟩
        rw [decide_eq_false (by omega)]
        refine iteF (iteF ?_)
        have a1 := Int.emod_nonneg (33071 * (turn : Int) + 419) (show (2147483579 : Int) ≠ 0 by decide)
        have a2 := Int.emod_lt_of_pos (33071 * (turn : Int) + 419) (show (0 : Int) < 2147483579 by decide)
        refine ⟨_, rfl, _, _, rfl, rfl, by show (0 : Int) < 2147483579; decide, _, rfl, _, _, rfl, rfl, .inl ⟨by omega, by omega⟩, _, _, rfl, rfl, _, _, rfl, rfl, _, _, rfl, rfl, ⟨by show (0 : Int) ≤ 5; decide, by show (5 : Int) ≤ 1000000; decide, by omega⟩, _, _, rfl, rfl, by show (0 : Int) < 2147483647; decide, ?_⟩
        generalize hmx : (((33071 * (turn : Int) + 419) % 2147483579 + 45127 * (turn : Int) + 67) ^ (5 : Int).toNat % 2147483647) = mx
        have m1 : 0 ≤ mx := by rw [← hmx]; exact Int.emod_nonneg _ (by decide)
        have m2 : mx < 2147483647 := by rw [← hmx]; exact Int.emod_lt_of_pos _ (by decide)
        have b1 : mx * (2 * (turn : Int) + 71) ≤ 2147483647 * 200071 := Int.mul_le_mul (by omega) (by omega) (by omega) (by decide)
        have b2 : 0 ≤ mx * (2 * (turn : Int) + 71) := Int.mul_nonneg m1 (by omega)
        have b3 : 90017 * (turn : Int) * (turn : Int) ≤ (90017 * 100000) * 100000 := Int.mul_le_mul (by omega) (by omega) (by omega) (by decide)
        have b4 : 0 ≤ 90017 * (turn : Int) * (turn : Int) := Int.mul_nonneg (by omega) (by omega)
        refine ⟨_, rfl, _, rfl, _, _, rfl, rfl, .inl ⟨by omega, by omega⟩, _, _, rfl, rfl, _, _, rfl, rfl, .inl ⟨by omega, by omega⟩, _, rfl, _, _, rfl, rfl, .inl ⟨by omega, by omega⟩, _, rfl, _, _, rfl, rfl, .inl ⟨by omega, by omega⟩, _, _, rfl, rfl, _, _, rfl, rfl, _, _, rfl, rfl, ⟨by show (0 : Int) ≤ 3; decide, by show (3 : Int) ≤ 1000000; decide, by
                show (((33071 * (turn : Int) + 419) % 2147483579 + 45127 * (turn : Int) + 67) ^ (5 : Int).toNat % 2147483647 * (2 * (turn : Int) + 71) + 90017 * (turn : Int) * (turn : Int) + 3).natAbs < 2 ^ 64
                rw [hmx]
                generalize mx * (2 * (turn : Int) + 71) = c1 at *
                generalize 90017 * (turn : Int) * (turn : Int) = c2 at *
                omega⟩, _, _, rfl, rfl, by show (0 : Int) < 2147483587; decide, ?_⟩
        exact ⟨_, rfl, _, _, rfl, rfl, ⟨by show (0 : Int) < 32; decide, by show (32 : Int) < 1073741824; decide⟩, _, rfl, _, _, rfl, rfl, by omega, fin _ _ s2⟩
      · rw [show (!(ns.map V.int).isEmpty) = true by cases ns with | nil => exact absurd rfl hns | cons a b => rfl]
        refine iteT ?_
        have hpos : 0 < ns.length := List.length_pos_iff.mpr hns
        have hmod : (turn : Int) % (ns.length : Nat) = ((turn % ns.length : Nat) : Int) := by omega
        have hlt : turn % ns.length < ns.length := Nat.mod_lt _ hpos
        have hget : (ns.map V.int)[turn % ns.length]? = some (.int ns[turn % ns.length]) := by rw [List.getElem?_map, List.getElem?_eq_getElem hlt]; rfl
        refine ⟨_, rfl, t, _, 0, _, rfl, rfl, isL e2, rfl, _, rfl, _, rfl, t, _, 0, _, rfl, rfl, isL e2, rfl, _, ns.length, rfl, .inl ⟨_, isL l2, by rw [List.length_map]⟩, _, _, rfl, rfl, by omega, l, _, _, _, rfl, rfl, isL l2, by rw [hmod]; exact atI_nat hget, ?_⟩
        generalize ns[turn % ns.length] = part
        refine ⟨_, rfl, _, rfl, t, _, 0, _, rfl, rfl, isL e2, rfl, _, ns.length, rfl, .inl ⟨_, isL l2, by rw [List.length_map]⟩, _, _, rfl, rfl, _, rfl, ?_⟩
        by_cases hc1 : (turn : Int) < (ns.length : Nat)
        · rw [decide_eq_true hc1]
          refine iteT ?_
          refine ⟨_, rfl, _, rfl, 10, 18, rfl, rfl, ⟨by decide, by decide, by decide⟩, _, _, rfl, rfl, _, rfl, ?_⟩
          by_cases hc2 : (10 : Int) ^ (18 : Int).toNat ≤ (if part < 0 then -part else part)
          · rw [decide_eq_true hc2]
            refine iteT ?_
            refine ⟨_, rfl, _, rfl, _, _, rfl, rfl, .inl ⟨by decide, by decide⟩, _, rfl, _, _, rfl, rfl, .inr ⟨_, rfl, _, _, rfl, rfl, ?_⟩⟩
            have hg0 : 0 ≤ (2 * (if part < 0 then -part else part) + if decide (part < 0) = true then 1 else 0) := by split <;> split <;> omega
            refine ⟨_, rfl, _, rfl, _, _, rfl, rfl, ⟨by omega, by omega⟩, _, rfl, t, _, 2, 2, rfl, rfl, e2, rfl, ?_⟩
            refine ⟨_, rfl, _, rfl, _, _, rfl, rfl, by omega, ?_⟩
            obtain ⟨v, hv, hvm⟩ := nn (2 * (if part < 0 then -part else part) + if decide (part < 0) = true then 1 else 0)
            show Q (.int ((2 * (if part < 0 then -part else part) + if decide (part < 0) = true then 1 else 0) % (m : Int))) _
            rw [hv]
            exact q _ v ((s1.trans (SameX.of s2)).at_ (by simp)) ((x1.trans (Same.ext s2)).trans (Ext.lst e2)) ⟨⟨turn + 1, (2 * (if part < 0 then -part else part) + if decide (part < 0) = true then 1 else 0) / (m : Int), upd_same, Int.ediv_nonneg (by omega) (by omega), by omega⟩, by rw [upd_ne (Ne.symm hne)]; exact l2, hne, hfew⟩ hvm
          · rw [decide_eq_false hc2]
            refine iteF ?_
            have a1 := Int.emod_nonneg part (show (2147483579 : Int) ≠ 0 by decide)
            have a2 := Int.emod_lt_of_pos part (show (0 : Int) < 2147483579 by decide)
            refine ⟨_, rfl, _, _, rfl, rfl, by show (0 : Int) < 2147483579; decide, _, rfl, _, _, rfl, rfl, .inl ⟨by omega, by omega⟩, _, _, rfl, rfl, _, _, rfl, rfl, _, _, rfl, rfl, ⟨by show (0 : Int) ≤ 5; decide, by show (5 : Int) ≤ 1000000; decide, by omega⟩, _, _, rfl, rfl, by show (0 : Int) < 2147483647; decide, ?_⟩
            generalize hmx : ((part % 2147483579 + 45127 * (turn : Int) + 67) ^ (5 : Int).toNat % 2147483647) = mx
            have m1 : 0 ≤ mx := by rw [← hmx]; exact Int.emod_nonneg _ (by decide)
            have m2 : mx < 2147483647 := by rw [← hmx]; exact Int.emod_lt_of_pos _ (by decide)
            have b1 : mx * (2 * (turn : Int) + 71) ≤ 2147483647 * 200071 := Int.mul_le_mul (by omega) (by omega) (by omega) (by decide)
            have b2 : 0 ≤ mx * (2 * (turn : Int) + 71) := Int.mul_nonneg m1 (by omega)
            have b3 : 90017 * (turn : Int) * (turn : Int) ≤ (90017 * 100000) * 100000 := Int.mul_le_mul (by omega) (by omega) (by omega) (by decide)
            have b4 : 0 ≤ 90017 * (turn : Int) * (turn : Int) := Int.mul_nonneg (by omega) (by omega)
            refine ⟨_, rfl, _, rfl, _, _, rfl, rfl, .inl ⟨by omega, by omega⟩, _, _, rfl, rfl, _, _, rfl, rfl, .inl ⟨by omega, by omega⟩, _, rfl, _, _, rfl, rfl, .inl ⟨by omega, by omega⟩, _, rfl, _, _, rfl, rfl, .inl ⟨by omega, by omega⟩, _, _, rfl, rfl, _, _, rfl, rfl, _, _, rfl, rfl, ⟨by show (0 : Int) ≤ 3; decide, by show (3 : Int) ≤ 1000000; decide, by
                show ((part % 2147483579 + 45127 * (turn : Int) + 67) ^ (5 : Int).toNat % 2147483647 * (2 * (turn : Int) + 71) + 90017 * (turn : Int) * (turn : Int) + 3).natAbs < 2 ^ 64
                rw [hmx]
                generalize mx * (2 * (turn : Int) + 71) = c1 at *
                generalize 90017 * (turn : Int) * (turn : Int) = c2 at *
                omega⟩, _, _, rfl, rfl, by show (0 : Int) < 2147483587; decide, ?_⟩
            exact ⟨_, rfl, _, _, rfl, rfl, ⟨by show (0 : Int) < 32; decide, by show (32 : Int) < 1073741824; decide⟩, _, rfl, _, _, rfl, rfl, by omega, fin _ _ s2⟩
        · rw [decide_eq_false hc1]
          refine iteF (iteF ?_)
          have a1 := Int.emod_nonneg part (show (2147483579 : Int) ≠ 0 by decide)
          have a2 := Int.emod_lt_of_pos part (show (0 : Int) < 2147483579 by decide)
          refine ⟨_, rfl, _, _, rfl, rfl, by show (0 : Int) < 2147483579; decide, _, rfl, _, _, rfl, rfl, .inl ⟨by omega, by omega⟩, _, _, rfl, rfl, _, _, rfl, rfl, _, _, rfl, rfl, ⟨by show (0 : Int) ≤ 5; decide, by show (5 : Int) ≤ 1000000; decide, by omega⟩, _, _, rfl, rfl, by show (0 : Int) < 2147483647; decide, ?_⟩
          generalize hmx : ((part % 2147483579 + 45127 * (turn : Int) + 67) ^ (5 : Int).toNat % 2147483647) = mx
          have m1 : 0 ≤ mx := by rw [← hmx]; exact Int.emod_nonneg _ (by decide)
          have m2 : mx < 2147483647 := by rw [← hmx]; exact Int.emod_lt_of_pos _ (by decide)
          have b1 : mx * (2 * (turn : Int) + 71) ≤ 2147483647 * 200071 := Int.mul_le_mul (by omega) (by omega) (by omega) (by decide)
          have b2 : 0 ≤ mx * (2 * (turn : Int) + 71) := Int.mul_nonneg m1 (by omega)
          have b3 : 90017 * (turn : Int) * (turn : Int) ≤ (90017 * 100000) * 100000 := Int.mul_le_mul (by omega) (by omega) (by omega) (by decide)
          have b4 : 0 ≤ 90017 * (turn : Int) * (turn : Int) := Int.mul_nonneg (by omega) (by omega)
          refine ⟨_, rfl, _, rfl, _, _, rfl, rfl, .inl ⟨by omega, by omega⟩, _, _, rfl, rfl, _, _, rfl, rfl, .inl ⟨by omega, by omega⟩, _, rfl, _, _, rfl, rfl, .inl ⟨by omega, by omega⟩, _, rfl, _, _, rfl, rfl, .inl ⟨by omega, by omega⟩, _, _, rfl, rfl, _, _, rfl, rfl, _, _, rfl, rfl, ⟨by show (0 : Int) ≤ 3; decide, by show (3 : Int) ≤ 1000000; decide, by
                show ((part % 2147483579 + 45127 * (turn : Int) + 67) ^ (5 : Int).toNat % 2147483647 * (2 * (turn : Int) + 71) + 90017 * (turn : Int) * (turn : Int) + 3).natAbs < 2 ^ 64
                rw [hmx]
                generalize mx * (2 * (turn : Int) + 71) = c1 at *
                generalize 90017 * (turn : Int) * (turn : Int) = c2 at *
                omega⟩, _, _, rfl, rfl, by show (0 : Int) < 2147483587; decide, ?_⟩
          exact ⟨_, rfl, _, _, rfl, rfl, ⟨by show (0 : Int) < 32; decide, by show (32 : Int) < 1073741824; decide⟩, _, rfl, _, _, rfl, rfl, by omega, fin _ _ s2⟩
end
end Cp
/-! The law's between, follow, orders. -/
namespace Cp
open PySem PySem.Spec PyProof.Rows L2
/-- a network as the law's model holds it -/
def ModAt (K : PySem.W.Frag) (r : Bool) (H : Hp) (m : Addr) (M : Net) : Prop := ∃ j e, SqT K H m [.int (low r : Nat), .int (M.n : Nat), .ref j, .ref e] ∧ CellsT K H j M.cs ∧ SqT K H e (nInts M.os)
theorem ModAt.mono {K : PySem.W.Frag} {r : Bool} {H H' : Hp} {m : Addr} {M : Net} (s : Same H H') (h : ModAt K r H m M) : ModAt K r H' m M :=
  let ⟨j, e, h1, h2, h3⟩ := h; ⟨j, e, Same.sqt s h1, CellsT.mono s h2, Same.sqt s h3⟩
theorem ModAt.ext {K : PySem.W.Frag} {r : Bool} {H H' : Hp} {m : Addr} {M : Net} (s : Ext H H') (h : ModAt K r H m M) : ModAt K r H' m M :=
  let ⟨j, e, h1, h2, h3⟩ := h; ⟨j, e, Ext.sqt s h1, Ext.cells s h2, Ext.sqt s h3⟩
section
variable {P : Program} {w : World} {K : PySem.W.Frag} {mg : Str → Option Value} {base : Heap}
theorem sc_law_between : FnScope ["_law_thing", "_law_least", "_law_most_so"] ["_law_thing", "_law_least", "_law_most_so"] (defScope s_law_between) := ⟨rfl, rfl, rfl, by decide +kernel, rfl, by decide +kernel, by decide +kernel⟩
theorem ok_law_between (T : Txt w K mg) : FnR P w K mg base CX0 1 (gA "_law_between" K) spBetween := by
  obtain ⟨fd, F⟩ := T.f_law_between
  refine mkR F sc_law_between (fun _ _ _ _ _ _ us hl => match us, hl with | [_, _, _], _ => rfl) (fun vs H Q E h => ?_) (fun cdv A outer s H vs Q E hr h => ?_)
  · obtain ⟨z, a, b, rfl, _⟩ := h
    rfl
  · obtain ⟨z, a, b, rfl, q⟩ := h
    have nd := sc_law_between.nd
    refine ⟨_, (pss_one (ps_ret (pe_and (pe_callB call_isi (by rfl) T.b_isinstance (by decide +kernel) (pa_cons (pv 0) (pa_cons (pe_bltn (v := .ty "int") (by rfl) T.b_int (by decide +kernel) rfl) pa_nil))) (pe_and (pe_not (pe_callB call_isi (by rfl) T.b_isinstance (by decide +kernel) (pa_cons (pv 0) (pa_cons (pe_bltn (v := .ty "bool") (by rfl) T.b_bool (by decide +kernel) rfl) pa_nil)))) (pe_one (pe_chain op_le op_le (pv 1) (pv 0) (pv 2))))))), ?_⟩
    refine ⟨_, rfl, _, _, _, _, true, rfl, .ty "int", .base (.int z), kit_ty (by decide +kernel), true, rfl, iteT ?_⟩
    refine ⟨_, rfl, _, _, _, _, false, rfl, .ty "bool", .base (.int z), kit_ty (by decide +kernel), false, rfl, ?_⟩
    refine ⟨true, rfl, iteT ?_⟩
    refine ⟨_, rfl, _, rfl, _, _, rfl, rfl, _, rfl, ?_⟩
    by_cases h1 : a ≤ z
    · rw [decide_eq_true h1]
      refine iteT ⟨_, rfl, _, _, rfl, rfl, ?_⟩
      simpa [h1] using q
    · rw [decide_eq_false h1]
      refine iteF ?_
      simpa [h1] using q
def spFollow (K : PySem.W.Frag) : Sp := fun vs H Q _ => ∃ (a b : Addr) (ps qs : List Nat), vs = [.ref a, .ref b] ∧ SqT K H a (nInts ps) ∧ SqT K H b (nInts qs) ∧ ps.length ≤ 100 ∧ qs.length ≤ 100 ∧ ∀ c H', Same H H' → SqT K H' c (nInts (follow ps qs)) → Q (.ref c) H'
theorem sc_law_follow : FnScope ["_law_first", "_law_second", "_law_entry"] ["_law_first", "_law_second"] (defScope s_law_follow) := ⟨rfl, rfl, rfl, by decide +kernel, rfl, by decide +kernel, by decide +kernel⟩
theorem ok_law_follow (T : Txt w K mg) : FnR P w K mg base CX0 1 (gA "_law_follow" K) (spFollow K) := by
  obtain ⟨fd, F⟩ := T.f_law_follow
  refine mkR F sc_law_follow (fun _ _ _ _ _ _ us hl => match us, hl with | [_, _], _ => rfl) (fun vs H Q E h => ?_) (fun cdv A outer s H vs Q E hr h => ?_)
  · obtain ⟨a, b, ps, qs, rfl, _⟩ := h
    rfl
  · obtain ⟨a, b, ps, qs, rfl, ha, hb, l1, l2, q⟩ := h
    have nd := sc_law_follow.nd
    have in0 : inV (.int 0) (nInts ps) = decide (0 ∈ ps) := inV_ints 0 ps
    refine ⟨_, (pss_cons (ps_if (pt_cmpR op_in_seq pe_int (pv 0) (by rfl)) (pss_one (ps_ret (pv 0))) pss_nil)
      (pss_one (ps_ret (pe_op op_catA (pv 0) (pe_callTy call_tuple_of (by rfl) T.b_tuple (by decide +kernel) (pa_cons (pe_lc (own := [("_law_entry", 2)]) (g := (gName 2)) (tt := (tTest (tOp (rIn K true) (tVar 2) (tVar 0)))) (te := (tVar 2)) rfl nd (pi_tup (pv 1)) (blkOk_by (N := ["_law_first", "_law_second", "_law_entry"]) (sc := defScope s_law_follow) (by decide +kernel)) (fun _ _ _ _ _ => (pg_name (i := 2) nd rfl (Or.inl rfl))) (fun _ _ _ _ _ => (pts_one (pt_cmpR op_notIn_seq (pv 2) (pv 0) (by rfl)))) (fun _ _ _ _ _ => (pv 2))) pa_nil)))))), ?_⟩
    refine ⟨_, rfl, a, _, rfl, .inr ha, rfl, flat_ints _, _, rfl, ?_⟩
    show if inV (.int 0) (nInts ps) = true then _ else _
    rw [in0]
    by_cases h0 : 0 ∈ ps
    · rw [decide_eq_true h0]
      refine iteT ⟨_, rfl, ?_⟩
      have : follow ps qs = ps := by unfold follow; rw [if_pos h0]
      exact q a H (Same.refl _) (by rw [this]; exact ha)
    · rw [decide_eq_false h0]
      refine iteF ?_
      have ef : follow ps qs = ps ++ qs.filter (fun x => decide (x ∉ ps)) := by unfold follow; rw [if_neg h0]
      refine ⟨_, rfl, _, rfl, b, rfl, ⟨_, hb⟩, fun D hD => ?_⟩
      refine lc_pure (items := qs) hD (w := by have w := walk_tup (K := K) (a := b) (xs := nInts qs); rwa [nInts_len] at w) (fun x => decide (x ∉ ps)) (fun _ v p => v = .int (p : Nat)) (fun _ _ _ _ _ h => h) (sz7 (by omega)) (fun H4 s4 => Same.sqt s4 hb) (fun i x ex H4 s4 Ky Kn hy hn2 v H' y => ?_) (fun acc H3 s3 hd3 rel3 => ?_)
      · obtain ⟨rfl, hx⟩ := y
        obtain ⟨o', ho', rfl⟩ := nInts_get hx
        rw [ex] at ho'
        cases ho'
        refine ⟨rfl, _, rfl, _, rfl, a, _, rfl, .inr (Same.sqt s4 ha), rfl, flat_ints _, _, rfl, ?_⟩
        rw [inV_ints]
        by_cases e1 : x ∈ ps
        · rw [decide_eq_true e1]
          exact iteF (hn2 _ (Same.refl _) (decide_eq_false fun z => z e1))
        · rw [decide_eq_false e1]
          exact iteT ⟨_, rfl, hy _ _ (Same.refl _) rfl (decide_eq_true e1)⟩
      have ea : acc = nInts (qs.filter (fun x => decide (x ∉ ps))) := rel_map rel3
      subst ea
      have lf : (qs.filter (fun x => decide (x ∉ ps))).length ≤ qs.length := List.length_filter_le _ _
      refine ⟨D, _, rfl, .inl ⟨isL hd3, fun t ht => ?_⟩⟩
      have s4 := s3.trans (Same.new (o := .tup (nInts (qs.filter (fun x => decide (x ∉ ps))))) ht)
      have ht4 : upd H3 t (.tup (nInts (qs.filter (fun x => decide (x ∉ ps))))) t = some (.tup (nInts (qs.filter (fun x => decide (x ∉ ps))))) := upd_same
      generalize upd H3 t (.tup (nInts (qs.filter (fun x => decide (x ∉ ps))))) = H4 at s4 ht4 ⊢
      refine ⟨a, t, nInts ps, nInts (qs.filter (fun x => decide (x ∉ ps))), rfl, rfl, Same.sqt s4 ha, isT ht4, by rw [nInts_len, nInts_len]; exact sz10 (by omega), fun e => ?_, fun e1 e2 => ?_, fun e1 e2 p hp => ?_⟩
      · have : ps = [] := nInts_inj (b := []) e
        refine q t H4 s4 ?_
        rw [ef, this]
        rw [this] at ht4
        exact isT ht4
      · have : qs.filter (fun x => decide (x ∉ ps)) = [] := nInts_inj (b := []) e2
        refine q a H4 s4 ?_
        rw [ef, this, List.append_nil]
        exact Same.sqt s4 ha
      · refine q p _ (s4.trans (Same.new hp)) (isT ?_)
        rw [upd_same, ef, nInts_append]
def spLOrds (K : PySem.W.Frag) : Sp := fun vs H Q _ => ∃ (r : Bool) (m : Addr) (M : Net), vs = [.ref m] ∧ ModAt K r H m M ∧ NetOk r M ∧ ∀ H' b as, Same H H' → H' b = some (.lst (as.map V.ref)) → Rel2 (fun a ps => SqT K H' a (nInts ps)) as (ords M.n M.cs) → Q (.ref b) H'
theorem sc_law_orders : FnScope ["_law_model", "_law_found", "_law_above", "_law_below", "_law_position"] ["_law_model"] (defScope s_law_orders) := ⟨rfl, rfl, rfl, by decide +kernel, rfl, by decide +kernel, by decide +kernel⟩
theorem ok_law_orders (T : Txt w K mg) : FnR P w K mg base CX0 2 (gA "_law_orders" K) (spLOrds K) := by
  obtain ⟨fd, F⟩ := T.f_law_orders
  refine mkR F sc_law_orders (fun _ _ _ _ _ _ us hl => match us, hl with | [_], _ => rfl) (fun vs H Q E h => ?_) (fun cdv A outer s H vs Q E hr h => ?_)
  · obtain ⟨r, m, M, rfl, _⟩ := h
    rfl
  · obtain ⟨r, m, M, rfl, ⟨j, e, hm, ⟨cas, hca, rc⟩, he⟩, hM, q⟩ := h
    have nd := sc_law_orders.nd
    have hn := hM.hi
    have hmany := hM.many
    refine ⟨_, (pss_cons (ps_setLc (i := 1) (own := [("_law_position", 4)]) (g := (gName 4)) (tt := tYes) (te := (tTup (tCons (tVar 4) tNil))) rfl nd rfl rfl (sw_true rfl rfl rfl (by decide +kernel)) (pi_range1 (by rfl) T.b_range (pa_cons (pe_op op_add (pe_ix ix_tup (pv 0) pe_int (fun _ _ => rfl)) pe_int) pa_nil)) (blkOk_by (N := ["_law_model", "_law_found", "_law_above", "_law_below", "_law_position"]) (sc := defScope s_law_orders) (by decide +kernel)) (fun _ _ _ _ _ => (pg_name (i := 4) nd rfl (Or.inl rfl))) (fun _ _ _ _ _ => pts_nil) (fun _ _ _ _ _ => (pe_tup (pa_cons (pv 4) pa_nil))))
      (pss_cons (ps_for PassesOwn.never rfl (pi_tup (pe_ix ix_tup (pv 0) pe_int (fun _ _ => rfl))) (pg_tup rfl (pgs_cons (pg_name (i := 2) nd rfl (Or.inl rfl)) (pgs_cons (pg_name (i := 3) nd rfl (Or.inl rfl)) pgs_nil)))
        (pss_one (ps_expr (pe_bm PySem.F.plainAttrs_list PySem.F.slot_list_append PySem.F.type_list_append mt_append (pv 1) (pa_cons (rf_call (ok_law_follow T) hr T.g_law_follow T.k_law_follow (pa_cons (pe_ix ix_list (pv 1) (pv 2) (fun _ _ => rfl)) (pa_cons (pe_ix ix_list (pv 1) (pv 3) (fun _ _ => rfl)) pa_nil))) pa_nil)))))
      (pss_one (ps_ret (pv 1))))), ?_⟩
    refine ⟨_, rfl, m, _, 1, _, rfl, rfl, hm, rfl, _, _, rfl, rfl, _, rfl, by omega, by omega, ?_⟩
    intro D hD
    refine lc_map (items := List.range (M.n + 1)) hD (w_range0 (by omega)) (fun H v x => ∃ a, v = .ref a ∧ SqT K H a (nInts [x])) (fun H H' v x e ⟨a, h1, h2⟩ => ⟨a, h1, Ext.sqt e h2⟩) (by rw [List.length_range]; exact sz8 (by omega)) (fun _ _ => trivial) (fun i x e H1 s1 Ky hy v H' y => ?_) (fun acc H1 s1 hd rel => ?_)
    · obtain ⟨rfl, rfl⟩ := y
      obtain ⟨rfl, hx⟩ := range_get e
      refine ⟨rfl, _, rfl, by show 1 ≤ sizeLine; decide, fun t ht => hy _ _ (Same.new ht) ⟨t, rfl, isT upd_same⟩⟩
    · obtain ⟨as0, rfl, rel0⟩ := refs_of rel
      refine ⟨_, rfl, m, _, 2, _, rfl, rfl, Same.sqt s1 hm, rfl, j, rfl, ⟨_, Same.sqt s1 hca⟩, ?_⟩
      refine for_it walk_tup (fun i σ H2 => ∃ u v y as, σ = [some (.ref m), some (.ref D), u, v, y] ∧ Same H H2 ∧ H2 D = some (.lst (as.map V.ref)) ∧ Rel2 (fun a ps => SqT K H2 a (nInts ps)) as (ords M.n (M.cs.take i)))
        ⟨none, none, none, as0, rfl, s1, hd, Rel2.map (R := fun a ps => SqT K H1 a (nInts ps)) (g := fun x => [x]) rel0⟩ (fun i σ H2 _ ⟨u, v, y, as, e, s2, _⟩ => Same.sqt s2 hca) (fun i x σ H2 H3 hi ⟨u, v, y, as, e, s2, hd2, rel2⟩ yy => ?_) (fun σ H2 ⟨u, v, y, as, e, s2, hd2, rel2⟩ => ?_)
      · obtain ⟨rfl, hx⟩ := yy
        obtain ⟨c, hc1, rfl⟩ := refs_get hx
        subst e
        obtain ⟨⟨cu, cl⟩, hcs, hcell⟩ := rc.get' hc1
        have hc := hM.cells
        obtain ⟨a1, a2, a3, a4⟩ := hc i cu cl hcs
        have hi' : i < M.cs.length := (List.getElem?_eq_some_iff.mp hcs).1
        have hti : (M.cs.take i).length = i := by simp; omega
        have hlen := ords_len M.n (M.cs.take i)
        have gu : (ords M.n (M.cs.take i))[cu]? = some ((ords M.n (M.cs.take i)).getD cu []) := by rw [List.getD_eq_getElem?_getD, List.getElem?_eq_getElem (by omega)]; rfl
        have gl : (ords M.n (M.cs.take i))[cl]? = some ((ords M.n (M.cs.take i)).getD cl []) := by rw [List.getD_eq_getElem?_getD, List.getElem?_eq_getElem (by omega)]; rfl
        obtain ⟨au, hau, ou⟩ := rel2.get gu
        obtain ⟨al, hal, ol⟩ := rel2.get gl
        have ku := ords_ok (hc.take i) cu a1 (by omega)
        have kl := ords_ok (hc.take i) cl a3 (by omega)
        refine ⟨c, _, rfl, Same.sqt s2 hcell, rfl, _, _, rfl, _, _, rfl, rfl, ?_⟩
        refine ⟨_, rfl, .inl ⟨rfl, _, isL hd2⟩, ?_⟩
        refine ⟨_, rfl, _, rfl, D, _, (cu : Int), _, rfl, rfl, isL hd2, atI_nat (get_refs hau), ?_⟩
        refine ⟨_, rfl, _, rfl, D, _, (cl : Int), _, rfl, rfl, isL hd2, atI_nat (get_refs hal), ?_⟩
        refine ⟨au, al, _, _, rfl, ou, ol, by have := ku.len; omega, by have := kl.len; omega, fun b H4 s4 o4 => ?_⟩
        refine ⟨D, _, _, rfl, rfl, s4 _ _ hd2, ?_, ?_⟩
        · rw [List.length_map, rel2.1, hlen, hti]; exact sz8 (by omega)
        refine ⟨_, _, y, as ++ [b], rfl, Same.mut (s2.trans s4) hD, by rw [upd_same, List.map_append]; rfl, ?_⟩
        rw [ords_take hcs]
        have ex : Ext H4 (upd H4 D (.lst (as.map V.ref ++ [.ref b]))) := Ext.lst (s4 _ _ hd2)
        exact (rel2.imp fun _ _ o => Ext.sqt ((Same.ext s4).trans ex) o).snoc (Ext.sqt ex o4)
      · subst e
        rw [List.length_map, rc.1, List.take_length] at rel2
        exact ⟨_, rfl, q H2 D as s2 hd2 rel2⟩
end
end Cp
/-! The law's model of deeds. -/
namespace Cp
open PySem PySem.Spec PyProof.Rows L2
section
variable {K : PySem.W.Frag} {H : Hp} {a b : Addr} {xs ys : List V} {Q : VK}
theorem slA_of {lo hi : Option Int} (ha : SqT K H a xs) (q : ∀ t H', Same H H' → SqT K H' t (cutV xs lo hi) → Q (.ref t) H') : rSlA K (.ref a) lo hi H Q := by
  refine ⟨a, xs, rfl, ha, fun h => q a H (Same.refl _) ?_, fun _ p hp => q p _ (Same.new hp) (isT upd_same)⟩
  have : cutV xs lo hi = xs := by unfold cutV; rw [h.1, h.2, List.drop_zero, Nat.sub_zero, List.take_length]
  rw [this]; exact ha
theorem catA_of (ha : SqT K H a xs) (hb : SqT K H b ys) (hz : xs.length + ys.length ≤ 10000) (q : ∀ t H', Same H H' → SqT K H' t (xs ++ ys) → Q (.ref t) H') : rCatA K (.ref a) (.ref b) H Q := by
  refine ⟨a, b, xs, ys, rfl, rfl, ha, hb, sz10 hz, fun h => q b H (Same.refl _) (by rw [h]; exact hb), fun _ h => q a H (Same.refl _) (by rw [h, List.append_nil]; exact ha), fun _ _ p hp => q p _ (Same.new hp) (isT upd_same)⟩
theorem noPart_of {σ : L2.St} {Q : Option Int → Hp → Prop} (h : Q none H) : tNoPart σ H Q := h
theorem cut_take' {xs : List V} {i : Int} {k : Nat} (e : i = (k : Nat)) (h : k ≤ xs.length) : cutV xs none (some i) = xs.take k := by rw [e]; exact cut_take h
theorem cut_drop' {xs : List V} {i : Int} {k : Nat} (e : i = (k : Nat)) (h : k ≤ xs.length) : cutV xs (some i) none = xs.drop k := by rw [e]; exact cut_drop h
end
theorem in3 (wk : Wk) : inV (.str (wname wk)) [.str "upper", .str "lower", .str "output"] = true := by cases wk <;> decide +kernel
/-- what the law's model makes of a deed -/
def LRes (K : PySem.W.Frag) (r : Bool) (H : Hp) (v : Addr) (o : Option Net) : Prop := match o with
  | some M' => ModAt K r H v M'
  | none => ∃ x rest, SqT K H v (.str x :: rest)
theorem set_tk {α : Type} {l : List α} {i : Nat} {x : α} (h : i < l.length) : l.take i ++ [x] ++ l.drop (i + 1) = l.set i x := by
  rw [List.set_eq_take_append_cons_drop, if_pos h]; simp
section
variable {P : Program} {w : World} {K : PySem.W.Frag} {mg : Str → Option Value} {base : Heap}
def spLRe (K : PySem.W.Frag) : Sp := fun vs H Q _ => ∃ (r : Bool) (m w : Addr) (M : Net) (wk : Wk) (i v : Nat), vs = [.ref m, .ref w, .int (v : Nat)] ∧ ModAt K r H m M ∧ NetOk r M ∧ WireAt K H w wk i ∧ ∀ t H', Same H H' → LRes K r H' t (done r M (.rewire wk i v)) → Q (.ref t) H'
theorem sc_law_rewired : FnScope ["_law_model", "_law_wire_so", "_law_spot", "_law_low", "_law_bits", "_law_joins", "_law_rows", "_law_word", "_law_at", "_law_bounds", "_law_pair"] ["_law_model", "_law_wire_so", "_law_spot"] (defScope s_law_rewired) := ⟨rfl, rfl, rfl, by decide +kernel, rfl, by decide +kernel, by decide +kernel⟩
theorem ok_law_rewired (T : Txt w K mg) : FnR P w K mg base CX0 2 (gA "_law_rewired" K) (spLRe K) := by
  obtain ⟨fd, F⟩ := T.f_law_rewired
  refine mkR F sc_law_rewired (fun _ _ _ _ _ _ us hl => match us, hl with | [_, _, _], _ => rfl) (fun vs H Q E h => ?_) (fun cdv A outer s H vs Q E hr h => ?_)
  · obtain ⟨r, m, w, M, wk, i, v, rfl, _⟩ := h
    rfl
  · obtain ⟨r, m, w, M, wk, i, v, rfl, ⟨j, e, hm, hj, he⟩, hM, hw, q⟩ := h
    have nd := sc_law_rewired.nd
    have hn := hM.hi
    have hmany := hM.many
    have hos := hM.outs
    have hlow := low_le r
    obtain ⟨cas, hca, rc⟩ := id hj
    have hcl : cas.length = M.cs.length := rc.1
    have w0 : atI [V.str (wname wk), V.int (i : Int)] 0 = some (.str (wname wk)) := rfl
    have wo := wname_inj wk .out
    rw [show wname .out = ("output" : Str) from rfl] at wo
    have wu := wname_inj wk .up
    rw [show wname .up = ("upper" : Str) from rfl] at wu
    refine ⟨_, (pss_cons (ps_asg (pv 0) (pg_tup rfl (pgs_cons (pg_name (i := 3) nd rfl (Or.inl rfl)) (pgs_cons (pg_name (i := 4) nd rfl (Or.inl rfl)) (pgs_cons (pg_name (i := 5) nd rfl (Or.inl rfl)) (pgs_cons (pg_name (i := 6) nd rfl (Or.inl rfl)) pgs_nil))))))
      (pss_cons (ps_if (PW.pt (pw_or (pt_not (pt_val (pe_callB call_isi (by rfl) T.b_isinstance (by decide +kernel) (pa_cons (pv 1) (pa_cons (pe_bltn (v := .ty "tuple") (by rfl) T.b_tuple (by decide +kernel) rfl) pa_nil))))) (pw_or (pt_cmpR op_ne (pe_callB call_len (by rfl) T.b_len (by decide +kernel) (pa_cons (pv 1) pa_nil)) pe_int (nomark _)) (pw_or1 (pt_not (pt_val (pe_callB call_isi (by rfl) T.b_isinstance (by decide +kernel) (pa_cons (pe_ix ix_tup (pv 1) pe_int (fun _ _ => rfl)) (pa_cons (pe_bltn (v := .ty "str") (by rfl) T.b_str (by decide +kernel) rfl) pa_nil))))))))) (pss_one (ps_ret (pe_tup (pa_cons pe_str (pa_cons (pv 1) pa_nil))))) pss_nil)
      (pss_cons (ps_asg (pv 1) (pg_tup rfl (pgs_cons (pg_name (i := 7) nd rfl (Or.inl rfl)) (pgs_cons (pg_name (i := 8) nd rfl (Or.inl rfl)) pgs_nil))))
      (pss_cons (ps_set (i := 9) nd rfl (Or.inl rfl) (pe_ifExp (pt_cmpR op_eq (pv 7) pe_str (nomark _)) (pe_lst (pa_cons (pv 3) (pa_cons (pv 4) pa_nil))) (pe_lst (pa_cons pe_int (pa_cons (pe_op op_sub (pe_callB call_len (by rfl) T.b_len (by decide +kernel) (pa_cons (pv 5) pa_nil)) pe_int) pa_nil)))))
      (pss_cons (ps_if (PW.pt (pw_or (pt_cmpR op_notIn_seq (pv 7) (pe_tup (pa_cons pe_str (pa_cons pe_str (pa_cons pe_str pa_nil)))) (by rfl)) (pw_or1 (pt_not (pt_val (rf_call (ok_law_between T) hr T.g_law_between T.k_law_between (pa_cons (pv 8) (pa_cons (pe_ix ix_list (pv 9) pe_int (fun _ _ => rfl)) (pa_cons (pe_ix ix_list (pv 9) pe_int (fun _ _ => rfl)) pa_nil))))))))) (pss_one (ps_ret (pe_tup (pa_cons pe_str (pa_cons (pv 1) pa_nil))))) pss_nil)
      (pss_cons (ps_if (pt_not (pt_val (rf_call (ok_law_between T) hr T.g_law_between T.k_law_between (pa_cons (pv 2) (pa_cons (pv 3) (pa_cons (pe_op op_add (pv 4) (pe_ifExp (pt_cmpR op_eq (pv 7) pe_str (nomark _)) (pe_callB call_len (by rfl) T.b_len (by decide +kernel) (pa_cons (pv 5) pa_nil)) (pv 8))) pa_nil)))))) (pss_one (ps_ret (pe_tup (pa_cons pe_str (pa_cons (pv 2) pa_nil))))) pss_nil)
      (pss_cons (ps_if (pt_cmpR op_eq (pv 7) pe_str (nomark _)) (pss_one (ps_ret (pe_tup (pa_cons (pv 3) (pa_cons (pv 4) (pa_cons (pv 5) (pa_cons (pe_op op_catA (pe_op op_catA (pe_slice sl_tupA (pv 6) po_none (po_some (pe_op op_sub (pv 8) (pv 3)))) (pe_tup (pa_cons (pv 2) pa_nil))) (pe_slice sl_tupA (pv 6) (po_some (pe_op op_add (pe_op op_sub (pv 8) (pv 3)) pe_int)) po_none)) pa_nil))))))) pss_nil)
      (pss_cons (ps_set (i := 10) nd rfl (Or.inl rfl) (pe_ifExp (pt_cmpR op_eq (pv 7) pe_str (nomark _)) (pe_tup (pa_cons (pv 2) (pa_cons (pe_ix ix_tup (pe_ix ix_tup (pv 5) (pv 8) (fun _ _ => rfl)) pe_int (fun _ _ => rfl)) pa_nil))) (pe_tup (pa_cons (pe_ix ix_tup (pe_ix ix_tup (pv 5) (pv 8) (fun _ _ => rfl)) pe_int (fun _ _ => rfl)) (pa_cons (pv 2) pa_nil)))))
      (pss_one (ps_ret (pe_tup (pa_cons (pv 3) (pa_cons (pv 4) (pa_cons (pe_op op_catA (pe_op op_catA (pe_slice sl_tupA (pv 5) po_none (po_some (pv 8))) (pe_tup (pa_cons (pv 10) pa_nil))) (pe_slice sl_tupA (pv 5) (po_some (pe_op op_add (pv 8) pe_int)) po_none)) (pa_cons (pv 6) pa_nil))))))))))))))), ?_⟩
    refine ⟨_, rfl, m, _, rfl, hm, rfl, _, _, rfl, _, _, rfl, _, _, rfl, _, _, rfl, rfl, ?_⟩
    refine ⟨_, rfl, _, _, _, _, true, rfl, .ty "tuple", tyx_tup hw, kit_ty (by decide +kernel), true, rfl, iteF ?_⟩
    refine ⟨_, rfl, _, 2, rfl, .inr ⟨_, hw, rfl⟩, rfl, _, rfl, iteF ?_⟩
    refine ⟨_, rfl, _, _, _, _, rfl, rfl, hw, w0, _, _, _, _, true, rfl, .ty "str", .base (.str _), kit_ty (by decide +kernel), true, rfl, iteF ?_⟩
    refine ⟨_, rfl, w, _, rfl, hw, rfl, _, _, rfl, _, _, rfl, rfl, ?_⟩
    by_cases hwo : wk = .out
    · refine ⟨_, rfl, rfl, _, rfl, ?_⟩
      rw [wo]
      rw [decide_eq_true hwo]
      refine iteT ⟨_, rfl, _, rfl, by show 2 ≤ sizeLine; decide, fun p hp => ?_⟩
      have s1 := Same.new (o := .lst [.int (low r : Nat), .int (M.n : Nat)]) hp
      have hp1 : upd H p (.lst [.int (low r : Nat), .int (M.n : Nat)]) p = some (.lst [.int (low r : Nat), .int (M.n : Nat)]) := upd_same
      generalize upd H p (.lst [.int (low r : Nat), .int (M.n : Nat)]) = H1 at s1 hp1 ⊢
      refine ⟨_, rfl, by show 3 ≤ sizeLine; decide, fun p2 hp2 => ⟨p2, _, rfl, .inr (isT upd_same), rfl, rfl, _, rfl, ite_f (by show (!inV (.str (wname wk)) [.str "upper", .str "lower", .str "output"]) = false; rw [in3]; rfl) ?_⟩⟩
      have s2' := Same.new (o := .tup [.str "upper", .str "lower", .str "output"]) hp2
      have hp2' := s2' _ _ hp1
      have s2 := s1.trans s2'
      generalize upd H1 p2 (.tup [.str "upper", .str "lower", .str "output"]) = H2 at s2' hp2' s2 ⊢
      refine ⟨_, rfl, _, rfl, p, _, 0, _, rfl, rfl, isL hp2', rfl, _, rfl, p, _, 1, _, rfl, rfl, isL hp2', rfl, (i : Int), (low r : Nat), (M.n : Nat), rfl, _, rfl, ?_⟩
      by_cases hok : low r ≤ i ∧ i ≤ M.n
      rotate_left
      · rw [decide_eq_false (by omega)]
        refine iteT ⟨_, rfl, by show 2 ≤ sizeLine; decide, fun t ht => q t _ (s2.trans (Same.new ht)) ?_⟩
        subst hwo
        rw [show done r M (.rewire .out i v) = none from by simp only [done]; rw [if_neg (fun z => hok ⟨z.1, z.2.1⟩)]]
        exact ⟨_, _, isT upd_same⟩
      rw [decide_eq_true (by omega)]
      refine iteF ?_
      refine ⟨_, rfl, _, rfl, _, rfl, _, rfl, rfl, _, rfl, ?_⟩
      rw [wo, decide_eq_true hwo]
      refine iteT ⟨_, rfl, _, M.cs.length, rfl, .inr ⟨_, Same.sqt s2 hca, by rw [List.length_map]; exact hcl.symm⟩, _, _, rfl, rfl, (v : Int), (low r : Nat), _, rfl, _, rfl, ?_⟩
      by_cases hv : inN r M v
      rotate_left
      · rw [decide_eq_false (fun z => hv ⟨by omega, by unfold top1; omega⟩)]
        refine iteT ⟨_, rfl, by show 2 ≤ sizeLine; decide, fun t ht => q t _ (s2.trans (Same.new ht)) ?_⟩
        subst hwo
        rw [show done r M (.rewire .out i v) = none from by simp only [done]; rw [if_neg (fun z => hv z.2.2)]]
        exact ⟨_, _, isT upd_same⟩
      rw [decide_eq_true (by have h1 := hv.1; have h2 := hv.2; unfold top1 at h2; omega)]
      refine iteF ?_
      refine ⟨_, rfl, rfl, _, rfl, ?_⟩
      rw [wo, decide_eq_true hwo]
      refine iteT ?_
      refine ⟨_, rfl, _, rfl, _, rfl, ?_⟩
      have he2 := Same.sqt s2 he
      refine ⟨_, rfl, _, rfl, _, rfl, _, _, rfl, rfl, _, rfl, ?_⟩
      have hil : i - low r < M.os.length := by omega
      refine slA_of he2 fun t3 H3 s3 h3 => ?_
      rw [cut_take' (k := i - low r) (by omega) (by rw [nInts_len]; omega)] at h3
      refine ⟨_, rfl, by show 1 ≤ sizeLine; decide, fun t4 ht4 => ?_⟩
      have s4 := Same.new (o := .tup [.int (v : Nat)]) ht4
      refine catA_of (Same.sqt s4 h3) (isT upd_same) (by simp; omega) fun t5 H5 s5 h5 => ?_
      generalize upd H3 t4 (.tup [.int (v : Nat)]) = H4 at s4 s5
      have s25 := (s3.trans s4).trans s5
      refine ⟨_, rfl, _, rfl, _, rfl, _, _, rfl, rfl, _, _, rfl, rfl, _, rfl, ?_⟩
      refine noPart_of ?_
      refine slA_of (Same.sqt s25 he2) fun t6 H6 s6 h6 => ?_
      rw [cut_drop' (k := i - low r + 1) (by omega) (by rw [nInts_len]; omega)] at h6
      refine catA_of (Same.sqt s6 h5) h6 (by simp; omega) fun t7 H7 s7 h7 => ?_
      have s27 := (s25.trans s6).trans s7
      refine ⟨by show 4 ≤ sizeLine; decide, fun t ht => q t _ ((s2.trans s27).trans (Same.new ht)) ?_⟩
      subst hwo
      rw [show done r M (.rewire .out i v) = some ⟨M.n, M.cs, M.os.set (i - low r) v⟩ from by simp only [done]; rw [if_pos ⟨hok.1, hok.2, hv⟩]]
      have ss := (s2.trans s27).trans (Same.new (o := .tup [.int (low r : Nat), .int (M.n : Nat), .ref j, .ref t7]) ht)
      refine ⟨j, t7, isT upd_same, CellsT.mono ss hj, ?_⟩
      refine Same.sqt (Same.new ht) ?_
      rw [set_tk (by rw [nInts_len]; exact hil), nInts_set] at h7
      exact h7
    · refine ⟨_, rfl, rfl, _, rfl, ?_⟩
      rw [wo]
      rw [decide_eq_false hwo]
      refine iteF ⟨_, rfl, _, M.cs.length, rfl, .inr ⟨_, hca, by rw [List.length_map]; exact hcl.symm⟩, _, _, rfl, rfl, by show 2 ≤ sizeLine; decide, fun p hp => ?_⟩
      have s1 := Same.new (o := .lst [.int 0, .int ((M.cs.length : Nat) - 1)]) hp
      have hp1 : upd H p (.lst [.int 0, .int ((M.cs.length : Nat) - 1)]) p = some (.lst [.int 0, .int ((M.cs.length : Nat) - 1)]) := upd_same
      generalize upd H p (.lst [.int 0, .int ((M.cs.length : Nat) - 1)]) = H1 at s1 hp1 ⊢
      refine ⟨_, rfl, by show 3 ≤ sizeLine; decide, fun p2 hp2 => ⟨p2, _, rfl, .inr (isT upd_same), rfl, rfl, _, rfl, ite_f (by show (!inV (.str (wname wk)) [.str "upper", .str "lower", .str "output"]) = false; rw [in3]; rfl) ?_⟩⟩
      have s2' := Same.new (o := .tup [.str "upper", .str "lower", .str "output"]) hp2
      have hp2' := s2' _ _ hp1
      have s2 := s1.trans s2'
      generalize upd H1 p2 (.tup [.str "upper", .str "lower", .str "output"]) = H2 at s2' hp2' s2 ⊢
      refine ⟨_, rfl, _, rfl, p, _, 0, _, rfl, rfl, isL hp2', rfl, _, rfl, p, _, 1, _, rfl, rfl, isL hp2', rfl, (i : Int), 0, ((M.cs.length : Nat) - 1), rfl, _, rfl, ?_⟩
      by_cases hok : i < M.cs.length
      rotate_left
      · rw [decide_eq_false (by omega)]
        refine iteT ⟨_, rfl, by show 2 ≤ sizeLine; decide, fun t ht => q t _ (s2.trans (Same.new ht)) ?_⟩
        rw [show done r M (.rewire wk i v) = none from by cases wk <;> first | exact absurd rfl hwo | (simp only [done]; rw [if_neg (fun z => hok z.1)])]
        exact ⟨_, _, isT upd_same⟩
      rw [decide_eq_true (by omega)]
      refine iteF ?_
      refine ⟨_, rfl, _, rfl, _, rfl, _, rfl, rfl, _, rfl, ?_⟩
      rw [wo, decide_eq_false hwo]
      refine iteF ⟨_, rfl, _, _, rfl, rfl, (v : Int), (low r : Nat), _, rfl, _, rfl, ?_⟩
      by_cases hv : low r ≤ v ∧ v ≤ M.n + i
      rotate_left
      · rw [decide_eq_false (by omega)]
        refine iteT ⟨_, rfl, by show 2 ≤ sizeLine; decide, fun t ht => q t _ (s2.trans (Same.new ht)) ?_⟩
        rw [show done r M (.rewire wk i v) = none from by cases wk <;> first | exact absurd rfl hwo | (simp only [done]; rw [if_neg (fun z => hv z.2)])]
        exact ⟨_, _, isT upd_same⟩
      rw [decide_eq_true (by omega)]
      refine iteF ?_
      refine ⟨_, rfl, rfl, _, rfl, ?_⟩
      rw [wo, decide_eq_false hwo]
      refine iteF ?_
      have hca2 := Same.sqt s2 hca
      have ec : M.cs[i]? = some M.cs[i] := List.getElem?_eq_getElem hok
      have egd : M.cs.getD i (0, 0) = M.cs[i] := by rw [List.getD_eq_getElem?_getD, ec]; rfl
      obtain ⟨pa, hpa, hcell0⟩ := rc.get ec
      have hcell : CellAt K H2 pa M.cs[i] := CellAt.mono s2 hcell0
      cases wk with
      | out => exact absurd rfl hwo
      | up =>
        refine ⟨_, rfl, rfl, _, rfl, ite_t (by decide +kernel) ?_⟩
        refine ⟨_, rfl, _, rfl, _, rfl, j, _, (i : Int), _, rfl, rfl, hca2, atI_nat (get_refs hpa), pa, _, 1, _, rfl, rfl, hcell, rfl, by show 2 ≤ sizeLine; decide, fun tp htp => ?_⟩
        have sp := Same.new (o := .tup [.int (v : Nat), .int (M.cs[i].2 : Nat)]) htp
        have hp2 : upd H2 tp (.tup [.int (v : Nat), .int (M.cs[i].2 : Nat)]) tp = some (.tup [.int (v : Nat), .int (M.cs[i].2 : Nat)]) := upd_same
        generalize upd H2 tp (.tup [.int (v : Nat), .int (M.cs[i].2 : Nat)]) = H3 at sp hp2 ⊢
        have hca3 := Same.sqt sp hca2
        refine ⟨_, rfl, _, rfl, _, rfl, _, rfl, _, rfl, ?_⟩
        refine slA_of hca3 fun t3 H4 s4 h3 => ?_
        rw [cut_take' (k := i) rfl (by rw [List.length_map]; omega), ← List.map_take] at h3
        refine ⟨_, rfl, by show 1 ≤ sizeLine; decide, fun t4 ht4 => ?_⟩
        have s5 := Same.new (o := .tup [.ref tp]) ht4
        refine catA_of (Same.sqt s5 h3) (isT upd_same) (by simp; omega) fun t5 H6 s6 h5 => ?_
        generalize upd H4 t4 (.tup [.ref tp]) = H5 at s5 s6
        have s36 := (s4.trans s5).trans s6
        refine ⟨_, rfl, _, rfl, _, _, rfl, rfl, _, rfl, ?_⟩
        refine noPart_of ?_
        refine slA_of (Same.sqt s36 hca3) fun t6 H7 s7 h6 => ?_
        rw [cut_drop' (k := i + 1) (by omega) (by rw [List.length_map]; omega), ← List.map_drop] at h6
        refine catA_of (Same.sqt s7 h5) h6 (by simp; omega) fun t7 H8 s8 h7 => ?_
        have s38 := (s36.trans s7).trans s8
        refine ⟨_, rfl, by show 4 ≤ sizeLine; decide, fun t ht => q t _ (((s2.trans sp).trans s38).trans (Same.new ht)) ?_⟩
        rw [show done r M (.rewire .up i v) = some ⟨M.n, M.cs.set i (v, M.cs[i].2), M.os⟩ from by simp only [done]; rw [if_pos ⟨hok, hv.1, hv.2⟩, egd]]
        have ss := ((s2.trans sp).trans s38).trans (Same.new (o := .tup [.int (low r : Nat), .int (M.n : Nat), .ref t7, .ref e]) ht)
        refine ⟨t7, e, isT upd_same, ⟨cas.take i ++ [tp] ++ cas.drop (i + 1), ?_, ?_⟩, Same.sqt ss he⟩
        · refine Same.sqt (Same.new ht) ?_
          rw [List.map_append, List.map_append]
          exact h7
        · rw [← set_tk hok]
          have sx := sp.trans (s38.trans (Same.new (o := .tup [.int (low r : Nat), .int (M.n : Nat), .ref t7, .ref e]) ht))
          have rc2 := rc.imp fun _ _ z => CellAt.mono ss z
          refine ((rc2.take i).snoc ?_).append (rc2.drop (i + 1))
          exact Same.sqt (s38.trans (Same.new ht)) (isT hp2)
      | lo =>
        refine ⟨_, rfl, rfl, _, rfl, ite_f (by decide +kernel) ?_⟩
        refine ⟨_, rfl, _, rfl, j, _, (i : Int), _, rfl, rfl, hca2, atI_nat (get_refs hpa), pa, _, 0, _, rfl, rfl, hcell, rfl, _, rfl, by show 2 ≤ sizeLine; decide, fun tp htp => ?_⟩
        have sp := Same.new (o := .tup [.int (M.cs[i].1 : Nat), .int (v : Nat)]) htp
        have hp2 : upd H2 tp (.tup [.int (M.cs[i].1 : Nat), .int (v : Nat)]) tp = some (.tup [.int (M.cs[i].1 : Nat), .int (v : Nat)]) := upd_same
        generalize upd H2 tp (.tup [.int (M.cs[i].1 : Nat), .int (v : Nat)]) = H3 at sp hp2 ⊢
        have hca3 := Same.sqt sp hca2
        refine ⟨_, rfl, _, rfl, _, rfl, _, rfl, _, rfl, ?_⟩
        refine slA_of hca3 fun t3 H4 s4 h3 => ?_
        rw [cut_take' (k := i) rfl (by rw [List.length_map]; omega), ← List.map_take] at h3
        refine ⟨_, rfl, by show 1 ≤ sizeLine; decide, fun t4 ht4 => ?_⟩
        have s5 := Same.new (o := .tup [.ref tp]) ht4
        refine catA_of (Same.sqt s5 h3) (isT upd_same) (by simp; omega) fun t5 H6 s6 h5 => ?_
        generalize upd H4 t4 (.tup [.ref tp]) = H5 at s5 s6
        have s36 := (s4.trans s5).trans s6
        refine ⟨_, rfl, _, rfl, _, _, rfl, rfl, _, rfl, ?_⟩
        refine noPart_of ?_
        refine slA_of (Same.sqt s36 hca3) fun t6 H7 s7 h6 => ?_
        rw [cut_drop' (k := i + 1) (by omega) (by rw [List.length_map]; omega), ← List.map_drop] at h6
        refine catA_of (Same.sqt s7 h5) h6 (by simp; omega) fun t7 H8 s8 h7 => ?_
        have s38 := (s36.trans s7).trans s8
        refine ⟨_, rfl, by show 4 ≤ sizeLine; decide, fun t ht => q t _ (((s2.trans sp).trans s38).trans (Same.new ht)) ?_⟩
        rw [show done r M (.rewire .lo i v) = some ⟨M.n, M.cs.set i (M.cs[i].1, v), M.os⟩ from by simp only [done]; rw [if_pos ⟨hok, hv.1, hv.2⟩, egd]]
        have ss := ((s2.trans sp).trans s38).trans (Same.new (o := .tup [.int (low r : Nat), .int (M.n : Nat), .ref t7, .ref e]) ht)
        refine ⟨t7, e, isT upd_same, ⟨cas.take i ++ [tp] ++ cas.drop (i + 1), ?_, ?_⟩, Same.sqt ss he⟩
        · refine Same.sqt (Same.new ht) ?_
          rw [List.map_append, List.map_append]
          exact h7
        · rw [← set_tk hok]
          have sx := sp.trans (s38.trans (Same.new (o := .tup [.int (low r : Nat), .int (M.n : Nat), .ref t7, .ref e]) ht))
          have rc2 := rc.imp fun _ _ z => CellAt.mono ss z
          refine ((rc2.take i).snoc ?_).append (rc2.drop (i + 1))
          exact Same.sqt (s38.trans (Same.new ht)) (isT hp2)
end
end Cp
/-! The law's model: added, without. -/
namespace Cp
open PySem PySem.Spec PyProof.Rows L2
section
variable {P : Program} {w : World} {K : PySem.W.Frag} {mg : Str → Option Value} {base : Heap}
def spLAdd (K : PySem.W.Frag) : Sp := fun vs H Q _ => ∃ (r : Bool) (m : Addr) (M : Net) (u l : Nat), vs = [.ref m, .int (u : Nat), .int (l : Nat)] ∧ ModAt K r H m M ∧ NetOk r M ∧ ∀ t H', Same H H' → LRes K r H' t (done r M (.add u l)) → Q (.ref t) H'
theorem sc_law_added : FnScope ["_law_model", "_law_one", "_law_mate", "_law_low", "_law_bits", "_law_joins", "_law_rows", "_law_spot"] ["_law_model", "_law_one", "_law_mate"] (defScope s_law_added) := ⟨rfl, rfl, rfl, by decide +kernel, rfl, by decide +kernel, by decide +kernel⟩
theorem ok_law_added (T : Txt w K mg) : FnR P w K mg base CX0 2 (gA "_law_added" K) (spLAdd K) := by
  obtain ⟨fd, F⟩ := T.f_law_added
  refine mkR F sc_law_added (fun _ _ _ _ _ _ us hl => match us, hl with | [_, _, _], _ => rfl) (fun vs H Q E h => ?_) (fun cdv A outer s H vs Q E hr h => ?_)
  · obtain ⟨r, m, M, u, l, rfl, _⟩ := h
    rfl
  · obtain ⟨r, m, M, u, l, rfl, ⟨j, e, hm, hj, he⟩, hM, q⟩ := h
    have nd := sc_law_added.nd
    have hn := hM.hi
    have hmany := hM.many
    have hos := hM.outs
    have hlow := low_le r
    obtain ⟨cas, hca, rc⟩ := id hj
    have hcl : cas.length = M.cs.length := rc.1
    refine ⟨_, (pss_cons (ps_asg (pv 0) (pg_tup rfl (pgs_cons (pg_name (i := 3) nd rfl (Or.inl rfl)) (pgs_cons (pg_name (i := 4) nd rfl (Or.inl rfl)) (pgs_cons (pg_name (i := 5) nd rfl (Or.inl rfl)) (pgs_cons (pg_name (i := 6) nd rfl (Or.inl rfl)) pgs_nil))))))
      (pss_cons (ps_for PassesOwn.never rfl (pi_tup (pe_tup (pa_cons (pv 1) (pa_cons (pv 2) pa_nil)))) (pg_name (i := 7) nd rfl (Or.inl rfl))
        (pss_one (ps_if (pt_not (pt_val (rf_call (ok_law_between T) hr T.g_law_between T.k_law_between (pa_cons (pv 7) (pa_cons (pv 3) (pa_cons (pe_op op_add (pv 4) (pe_callB call_len (by rfl) T.b_len (by decide +kernel) (pa_cons (pv 5) pa_nil))) pa_nil)))))) (pss_one (ps_ret (pe_tup (pa_cons pe_str (pa_cons (pv 7) pa_nil))))) pss_nil)))
      (pss_one (ps_ret (pe_ifExp (pt_cmpR op_eq (pe_callB call_len (by rfl) T.b_len (by decide +kernel) (pa_cons (pv 5) pa_nil)) pe_int (nomark _)) (pe_tup (pa_cons pe_str (pa_cons pe_int pa_nil))) (pe_tup (pa_cons (pv 3) (pa_cons (pv 4) (pa_cons (pe_op op_catA (pv 5) (pe_tup (pa_cons (pe_tup (pa_cons (pv 1) (pa_cons (pv 2) pa_nil))) pa_nil))) (pa_cons (pv 6) pa_nil)))))))))), ?_⟩
    refine ⟨_, rfl, m, _, rfl, hm, rfl, _, _, rfl, _, _, rfl, _, _, rfl, _, _, rfl, rfl, ?_⟩
    refine ⟨_, rfl, _, rfl, by show 2 ≤ sizeLine; decide, fun t ht => ?_⟩
    have s1 := Same.new (o := .tup [.int (u : Nat), .int (l : Nat)]) ht
    have ht1 : upd H t (.tup [.int (u : Nat), .int (l : Nat)]) t = some (.tup [.int (u : Nat), .int (l : Nat)]) := upd_same
    generalize upd H t (.tup [.int (u : Nat), .int (l : Nat)]) = H1 at s1 ht1 ⊢
    refine ⟨t, rfl, ⟨_, isT ht1⟩, ?_⟩
    refine for_it walk_tup (fun i σ H2 => ∃ z, σ = [some (.ref m), some (.int (u : Nat)), some (.int (l : Nat)), some (.int (low r : Nat)), some (.int (M.n : Nat)), some (.ref j), some (.ref e), z] ∧ Same H1 H2 ∧ ∀ v ∈ [u, l].take i, inN r M v)
      ⟨none, rfl, Same.refl _, fun v hv => by cases hv⟩ (fun i σ H2 _ ⟨z, e, s2, _⟩ => Same.sqt s2 (isT ht1)) (fun i x σ H2 H3 hi ⟨z, e, s2, hin⟩ yy => ?_) (fun σ H2 ⟨z, e, s2, hin⟩ => ?_)
    · obtain ⟨rfl, hx⟩ := yy
      subst e
      obtain ⟨v, hv, rfl⟩ : ∃ v : Nat, [u, l][i]? = some v ∧ x = .int (v : Nat) := by
        match i, hi, hx with
        | 0, _, hx => exact ⟨u, rfl, (Option.some.inj hx).symm⟩
        | 1, _, hx => exact ⟨l, rfl, (Option.some.inj hx).symm⟩
      have hil : i < 2 := hi
      have hti : ∀ i, i < 2 → [u, l][i]? = some v → [u, l].take (i + 1) = [u, l].take i ++ [v] := fun i h e => by
        match i, h, e with
        | 0, _, e => cases e; rfl
        | 1, _, e => cases e; rfl
      refine ⟨_, rfl, _, rfl, _, rfl, _, rfl, _, M.cs.length, rfl, .inr ⟨_, Same.sqt (s1.trans s2) hca, by rw [List.length_map]; exact hcl.symm⟩, _, _, rfl, rfl, (v : Int), (low r : Nat), _, rfl, _, rfl, ?_⟩
      by_cases hv2 : inN r M v
      rotate_left
      · rw [decide_eq_false (fun z => hv2 ⟨by omega, by unfold top1; omega⟩)]
        refine iteT ⟨_, rfl, by show 2 ≤ sizeLine; decide, fun t ht => q t _ ((s1.trans s2).trans (Same.new ht)) ?_⟩
        rw [show done r M (.add u l) = none from by
          simp only [done]
          rw [if_neg]
          rintro ⟨z1, z2, _⟩
          rcases List.mem_cons.mp (List.mem_of_getElem? hv) with q | q
          · exact hv2 (q ▸ z1)
          · exact hv2 (List.mem_singleton.mp q ▸ z2)]
        exact ⟨_, _, isT upd_same⟩
      rw [decide_eq_true (by have h1 := hv2.1; have h2 := hv2.2; unfold top1 at h2; omega)]
      refine iteF ⟨_, rfl, s2, fun x hx => ?_⟩
      rw [hti i hil hv] at hx
      rcases List.mem_append.mp hx with q | q
      · exact hin x q
      · rw [List.mem_singleton.mp q]; exact hv2
    · subst e
      have hu : inN r M u := hin u (List.mem_cons_self ..)
      have hl : inN r M l := hin l (List.mem_cons_of_mem _ (List.mem_cons_self ..))
      have s12 := s1.trans s2
      refine ⟨_, rfl, _, M.cs.length, rfl, .inr ⟨_, Same.sqt s12 hca, by rw [List.length_map]; exact hcl.symm⟩, rfl, _, rfl, ?_⟩
      by_cases h150 : M.cs.length = 150
      · rw [dInt, decide_eq_true (by omega)]
        refine iteT ⟨by show 2 ≤ sizeLine; decide, fun t ht => q t _ (s12.trans (Same.new ht)) ?_⟩
        rw [show done r M (.add u l) = none from by simp only [done]; rw [if_neg (fun z => by omega)]]
        exact ⟨_, _, isT upd_same⟩
      · rw [dInt, decide_eq_false (by omega)]
        refine iteF ⟨_, rfl, _, rfl, _, rfl, _, rfl, _, rfl, by show 2 ≤ sizeLine; decide, fun p hp => ⟨by show 1 ≤ sizeLine; decide, fun p2 hp2 => ?_⟩⟩
        have s3 := Same.new (o := .tup [.int (u : Nat), .int (l : Nat)]) hp
        have hp1 : upd H2 p (.tup [.int (u : Nat), .int (l : Nat)]) p = some (.tup [.int (u : Nat), .int (l : Nat)]) := upd_same
        generalize upd H2 p (.tup [.int (u : Nat), .int (l : Nat)]) = H3 at s3 hp1 hp2 ⊢
        have s4 := Same.new (o := .tup [.ref p]) hp2
        refine catA_of (Same.sqt (s12.trans (s3.trans s4)) hca) (isT upd_same) (by simp; omega) fun t5 H5 s5 h5 => ?_
        generalize upd H3 p2 (.tup [.ref p]) = H4 at s4 s5
        refine ⟨_, rfl, by show 4 ≤ sizeLine; decide, fun t6 ht6 => q t6 _ ((s12.trans (s3.trans (s4.trans s5))).trans (Same.new ht6)) ?_⟩
        rw [show done r M (.add u l) = some ⟨M.n, M.cs ++ [(u, l)], M.os⟩ from by simp only [done]; rw [if_pos ⟨hu, hl, by omega⟩]]
        have s6 := Same.new (o := .tup [.int (low r : Nat), .int (M.n : Nat), .ref t5, .ref e]) ht6
        have sl := (s4.trans s5).trans s6
        have sF := s12.trans (s3.trans sl)
        refine ⟨t5, e, isT upd_same, ⟨cas ++ [p], Same.sqt s6 (by rw [List.map_append]; exact h5), ?_⟩, Same.sqt sF he⟩
        exact (rc.imp fun _ _ z => CellAt.mono sF z).snoc (show CellAt K _ p (u, l) from isT (sl _ _ hp1))
end
end Cp
/-! The law's model: without. -/
namespace Cp
open PySem PySem.Spec PyProof.Rows L2
theorem rgV_get {a b : Nat} {k : Nat} (h : k < b - a) : (rgV (a : Int) (b : Int))[k]? = some (.int ((a + k : Nat) : Int)) := by
  unfold rgV
  rw [List.getElem?_map, List.getElem?_range (by omega)]
  show some (V.int _) = _
  rw [Int.natCast_add]
theorem rgV_len (a b : Nat) : (rgV (a : Int) (b : Int)).length = b - a := by rw [rgV_length]; omega
theorem names_get {g t i v : Nat} (h : g ≤ t) (hv : v ≤ t) : (rgV ((0 : Nat) : Int) (g : Int) ++ [V.int (i : Nat)] ++ rgV (g : Int) (t : Int))[v]? = some (.int (nm g i v : Nat)) := by
  have l1 := rgV_len 0 g
  unfold nm
  by_cases h1 : v < g
  · rw [if_pos h1, List.append_assoc, List.getElem?_append_left (by omega), rgV_get (by omega), Nat.zero_add]
  · rw [if_neg h1]
    by_cases h2 : v = g
    · rw [if_pos h2, List.getElem?_append_left (by rw [List.length_append, l1]; show v < (g - 0) + 1; omega), List.getElem?_append_right (by omega)]
      rw [show v - (rgV ((0 : Nat) : Int) (g : Int)).length = 0 by omega]
      rfl
    · rw [if_neg h2, List.getElem?_append_right (by rw [List.length_append, l1]; show (g - 0) + 1 ≤ v; omega), List.length_append, l1]
      show (rgV (g : Int) (t : Int))[v - ((g - 0) + 1)]? = _
      rw [rgV_get (by omega), show g + (v - (g - 0 + 1)) = v - 1 by omega]
section
variable {P : Program} {w : World} {K : PySem.W.Frag} {mg : Str → Option Value} {base : Heap}
def spLWo (K : PySem.W.Frag) : Sp := fun vs H Q _ => ∃ (r : Bool) (m : Addr) (M : Net) (g i : Nat), vs = [.ref m, .int (g : Nat), .int (i : Nat)] ∧ ModAt K r H m M ∧ NetOk r M ∧ M.n < g ∧ g ≤ M.n + M.cs.length ∧ ∀ t H', Same H H' → ModAt K r H' t (without M g i) → Q (.ref t) H'
theorem sc_law_without : FnScope ["_law_model", "_law_gone", "_law_instead", "_law_low", "_law_bits", "_law_joins", "_law_rows", "_law_names", "_law_at", "_law_left", "_law_above", "_law_below", "_law_end"] ["_law_model", "_law_gone", "_law_instead"] (defScope s_law_without) := ⟨rfl, rfl, rfl, by decide +kernel, rfl, by decide +kernel, by decide +kernel⟩
theorem ok_law_without (T : Txt w K mg) : FnR P w K mg base CX0 1 (gA "_law_without" K) (spLWo K) := by
  obtain ⟨fd, F⟩ := T.f_law_without
  refine mkR F sc_law_without (fun _ _ _ _ _ _ us hl => match us, hl with | [_, _, _], _ => rfl) (fun vs H Q E h => ?_) (fun cdv A outer s H vs Q E hr h => ?_)
  · obtain ⟨r, m, M, g, i, rfl, _⟩ := h
    rfl
  · obtain ⟨r, m, M, g, i, rfl, ⟨j, e, hm, hj, he⟩, hM, hg1, hg2, q⟩ := h
    have nd := sc_law_without.nd
    have hn := hM.hi
    have hmany := hM.many
    have hos := hM.outs
    have hlow := low_le r
    obtain ⟨cas, hca, rc⟩ := id hj
    have hcl : cas.length = M.cs.length := rc.1
    refine ⟨_, (pss_cons (ps_asg (pv 0) (pg_tup rfl (pgs_cons (pg_name (i := 3) nd rfl (Or.inl rfl)) (pgs_cons (pg_name (i := 4) nd rfl (Or.inl rfl)) (pgs_cons (pg_name (i := 5) nd rfl (Or.inl rfl)) (pgs_cons (pg_name (i := 6) nd rfl (Or.inl rfl)) pgs_nil))))))
      (pss_cons (ps_set (i := 7) nd rfl (Or.inr rfl) (pe_op op_cat (pe_op op_cat (pe_listRg rfl (by rfl) T.b_list (prg_1 (by rfl) T.b_range (pv 1))) (pe_lst (pa_cons (pv 2) pa_nil))) (pe_listRg rfl (by rfl) T.b_list (prg_2 (by rfl) T.b_range (pv 1) (pe_op op_add (pv 4) (pe_callB call_len (by rfl) T.b_len (by decide +kernel) (pa_cons (pv 5) pa_nil)))))))
      (pss_cons (ps_set (i := 8) nd rfl (Or.inl rfl) (pe_op op_sub (pe_op op_sub (pv 1) (pv 4)) pe_int))
      (pss_cons (ps_setLc (i := 9) (own := [("_law_above", 10), ("_law_below", 11)]) (g := (gTup K 2 (gCons (gName 10) (gCons (gName 11) gNil)))) (tt := tYes) (te := (tTup (tCons (tOp (rIxL K) (tVar 7) (tVar 10)) (tCons (tOp (rIxL K) (tVar 7) (tVar 11)) tNil)))) rfl nd rfl rfl (sw_true rfl rfl rfl (by decide +kernel)) (pi_tup (pe_op op_catA (pe_slice sl_tupA (pv 5) po_none (po_some (pv 8))) (pe_slice sl_tupA (pv 5) (po_some (pe_op op_add (pv 8) pe_int)) po_none))) (blkOk_by (N := ["_law_model", "_law_gone", "_law_instead", "_law_low", "_law_bits", "_law_joins", "_law_rows", "_law_names", "_law_at", "_law_left", "_law_above", "_law_below", "_law_end"]) (sc := defScope s_law_without) (by decide +kernel)) (fun _ _ _ _ _ => (pg_tup rfl (pgs_cons (pg_name (i := 10) nd rfl (Or.inl rfl)) (pgs_cons (pg_name (i := 11) nd rfl (Or.inl rfl)) pgs_nil)))) (fun _ _ _ _ _ => pts_nil) (fun _ _ _ _ _ => (pe_tup (pa_cons (pe_ix ix_list (pv 7) (pv 10) (fun _ _ => rfl)) (pa_cons (pe_ix ix_list (pv 7) (pv 11) (fun _ _ => rfl)) pa_nil)))))
      (pss_one (ps_ret (pe_tup (pa_cons (pv 3) (pa_cons (pv 4) (pa_cons (pe_callTy call_tuple_of (by rfl) T.b_tuple (by decide +kernel) (pa_cons (pv 9) pa_nil)) (pa_cons (pe_callTy call_tuple_of (by rfl) T.b_tuple (by decide +kernel) (pa_cons (pe_lc (own := [("_law_end", 12)]) (g := (gName 12)) (tt := tYes) (te := (tOp (rIxL K) (tVar 7) (tVar 12))) rfl nd (pi_tup (pv 6)) (blkOk_by (N := ["_law_model", "_law_gone", "_law_instead", "_law_low", "_law_bits", "_law_joins", "_law_rows", "_law_names", "_law_at", "_law_left", "_law_above", "_law_below", "_law_end"]) (sc := defScope s_law_without) (by decide +kernel)) (fun _ _ _ _ _ => (pg_name (i := 12) nd rfl (Or.inl rfl))) (fun _ _ _ _ _ => pts_nil) (fun _ _ _ _ _ => (pe_ix ix_list (pv 7) (pv 12) (fun _ _ => rfl)))) pa_nil)) pa_nil))))))))))), ?_⟩
    refine ⟨_, rfl, m, _, rfl, hm, rfl, _, _, rfl, _, _, rfl, _, _, rfl, _, _, rfl, rfl, ?_⟩
    refine ⟨_, rfl, _, rfl, RgOk.of_le (by omega) (by omega) (by omega) (by omega), fun p1 hp1 => ?_⟩
    have s1 := Same.new (o := .lst (rgV 0 (g : Int))) hp1
    have e1 : upd H p1 (.lst (rgV 0 (g : Int))) p1 = some (.lst (rgV ((0 : Nat) : Int) (g : Int))) := upd_same
    generalize upd H p1 (.lst (rgV 0 (g : Int))) = H1 at s1 e1 ⊢
    refine ⟨_, rfl, by show 1 ≤ sizeLine; decide, fun p2 hp2 => ?_⟩
    have s2 := Same.new (o := .lst [V.int (i : Nat)]) hp2
    have e2 : upd H1 p2 (.lst [V.int (i : Nat)]) p2 = some (.lst [V.int (i : Nat)]) := upd_same
    generalize upd H1 p2 (.lst [V.int (i : Nat)]) = H2 at s2 e2 ⊢
    have l1 := rgV_len 0 g
    have l2 := rgV_len g (M.n + M.cs.length)
    refine ⟨p1, p2, _, _, rfl, rfl, s2 _ _ e1, e2, by rw [l1]; exact sz10 (by simp; omega), fun p3 hp3 => ?_⟩
    have s3 := Same.new (o := .lst (rgV ((0 : Nat) : Int) (g : Int) ++ [V.int (i : Nat)])) hp3
    have e3 : upd H2 p3 (.lst (rgV ((0 : Nat) : Int) (g : Int) ++ [V.int (i : Nat)])) p3 = some (.lst (rgV ((0 : Nat) : Int) (g : Int) ++ [V.int (i : Nat)])) := upd_same
    generalize upd H2 p3 (.lst (rgV ((0 : Nat) : Int) (g : Int) ++ [V.int (i : Nat)])) = H3 at s3 e3 ⊢
    have s03 := s1.trans (s2.trans s3)
    refine ⟨_, rfl, _, rfl, _, rfl, _, M.cs.length, rfl, .inr ⟨_, Same.sqt s03 hca, by rw [List.length_map]; exact hcl.symm⟩, _, _, rfl, rfl, _, _, rfl, rfl, RgOk.of_le (by omega) (by omega) (by omega) (by omega), fun p4 hp4 => ?_⟩
    rw [show ((M.n : Int) + ((M.cs.length : Nat) : Int)) = ((M.n + M.cs.length : Nat) : Int) by omega]
    have s4 := Same.new (o := .lst (rgV (g : Int) ((M.n + M.cs.length : Nat) : Int))) hp4
    have e4 : upd H3 p4 (.lst (rgV (g : Int) ((M.n + M.cs.length : Nat) : Int))) p4 = some (.lst (rgV (g : Int) ((M.n + M.cs.length : Nat) : Int))) := upd_same
    generalize upd H3 p4 (.lst (rgV (g : Int) ((M.n + M.cs.length : Nat) : Int))) = H4 at s4 e4 ⊢
    refine ⟨p3, p4, _, _, rfl, rfl, s4 _ _ e3, e4, by rw [List.length_append, l1, l2]; exact sz10 (by simp; omega), fun p5 hp5 => ?_⟩
    obtain ⟨nms, enms⟩ : ∃ nms, rgV ((0 : Nat) : Int) (g : Int) ++ [V.int (i : Nat)] ++ rgV (g : Int) ((M.n + M.cs.length : Nat) : Int) = nms := ⟨_, rfl⟩
    rw [enms]
    have hnm : ∀ v, v ≤ M.n + M.cs.length → atI nms (v : Int) = some (.int (nm g i v : Nat)) := fun v hv => by
      rw [← enms]; exact atI_nat (names_get hg2 hv)
    have s5 := Same.new (o := .lst nms) hp5
    have e5 : upd H4 p5 (.lst nms) p5 = some (.lst nms) := upd_same
    generalize upd H4 p5 (.lst nms) = H5 at s5 e5 ⊢
    have s05 := s03.trans (s4.trans s5)
    refine ⟨_, rfl, _, rfl, _, _, rfl, rfl, _, _, rfl, rfl, ?_⟩
    refine ⟨_, rfl, noPart_of ?_⟩
    refine ⟨_, rfl, _, rfl, ?_⟩
    have eat : ((g : Int) - (M.n : Int) - 1) = ((g - M.n - 1 : Nat) : Int) := by omega
    refine slA_of (Same.sqt s05 hca) fun t6 H6 s6 h6 => ?_
    rw [cut_take' (k := g - M.n - 1) eat (by rw [List.length_map]; omega), ← List.map_take] at h6
    refine ⟨_, rfl, _, rfl, _, _, rfl, rfl, _, rfl, noPart_of ?_⟩
    refine slA_of (Same.sqt s6 (Same.sqt s05 hca)) fun t7 H7 s7 h7 => ?_
    rw [cut_drop' (k := g - M.n - 1 + 1) (by omega) (by rw [List.length_map]; omega), ← List.map_drop] at h7
    refine catA_of (Same.sqt s7 h6) h7 (by simp; omega) fun t8 H8 s8 h8 => ?_
    rw [← List.map_append, ← List.eraseIdx_eq_take_drop_succ] at h8
    obtain ⟨at_, hat⟩ : ∃ at_, g - M.n - 1 = at_ := ⟨_, rfl⟩
    rw [hat] at h8
    have s58 := s6.trans (s7.trans s8)
    have s08 := s05.trans s58
    have e8 := s58 _ _ e5
    have rc8 : Rel2 (CellAt K H8) (cas.eraseIdx at_) (M.cs.eraseIdx at_) := by
      rw [List.eraseIdx_eq_take_drop_succ, List.eraseIdx_eq_take_drop_succ]
      have z := rc.imp fun _ _ z => CellAt.mono s08 z
      exact (z.take at_).append (z.drop (at_ + 1))
    have lc8 : (M.cs.eraseIdx at_).length ≤ M.cs.length := by rw [List.length_eraseIdx]; split <;> omega
    refine ⟨t8, rfl, ⟨_, h8⟩, fun D hD => ?_⟩
    refine lc_map (items := M.cs.eraseIdx at_) hD (by
        have w := walk_tup (K := K) (a := t8) (xs := (cas.eraseIdx at_).map V.ref)
        rwa [List.length_map, rc8.1] at w) (fun H v x => ∃ p, v = .ref p ∧ CellAt K H p (nm g i x.1, nm g i x.2)) (fun H H' v x e ⟨p, h, o⟩ => ⟨p, h, Ext.cell e o⟩) (sz7 (by omega)) (fun H9 s9 => Same.sqt s9 h8) (fun k c ec H9 s9 Ky hy v H' y => ?_) (fun acc H9 s9 hd9 rel9 => ?_)
    · obtain ⟨rfl, hx⟩ := y
      obtain ⟨pc, hpc, rfl⟩ := refs_get hx
      have hcell : CellAt K H' pc c := CellAt.mono s9 (rc8.2 k pc c hpc ec)
      obtain ⟨k2, hk2⟩ := List.getElem?_of_mem ((List.eraseIdx_sublist M.cs at_).subset (List.mem_of_getElem? ec))
      obtain ⟨b1, b2, b3, b4⟩ := hM.cells k2 c.1 c.2 hk2
      have hk3 : k2 < M.cs.length := (List.getElem?_eq_some_iff.mp hk2).1
      have e9 := s9 _ _ e8
      refine ⟨pc, _, rfl, hcell, rfl, _, _, rfl, _, _, rfl, rfl, rfl, ?_⟩
      refine ⟨_, rfl, _, rfl, p5, nms, (c.1 : Int), _, rfl, rfl, isL e9, hnm c.1 (by omega), _, rfl, _, rfl, p5, nms, (c.2 : Int), _, rfl, rfl, isL e9, hnm c.2 (by omega), by show 2 ≤ sizeLine; decide, fun t ht => ?_⟩
      exact hy _ _ (Same.new ht) ⟨t, rfl, isT upd_same⟩
    · obtain ⟨as9, rfl, rel9'⟩ := refs_of rel9
      have hcs9 : Rel2 (CellAt K H9) as9 (without M g i).cs := by
        have z : Rel2 (CellAt K H9) as9 ((M.cs.eraseIdx at_).map fun c => (nm g i c.1, nm g i c.2)) := rel9'.map
        rw [← hat] at z
        exact z
      have l9 : as9.length ≤ M.cs.length := by rw [rel9'.1]; exact lc8
      refine ⟨_, rfl, _, rfl, _, rfl, D, _, rfl, .inl ⟨isL hd9, fun t10 ht10 => ?_⟩⟩
      have s10 := Same.new (o := .tup (as9.map V.ref)) ht10
      have e10 : upd H9 t10 (.tup (as9.map V.ref)) t10 = some (.tup (as9.map V.ref)) := upd_same
      generalize upd H9 t10 (.tup (as9.map V.ref)) = H10 at s10 e10 ⊢
      have s010 := s08.trans (s9.trans s10)
      have he10 := Same.sqt s010 he
      refine ⟨_, rfl, e, rfl, ⟨_, he10⟩, fun D6 hD6 => ?_⟩
      refine lc_map (items := M.os) hD6 (by have w := walk_tup (K := K) (a := e) (xs := nInts M.os); rwa [nInts_len] at w) (fun H v x => v = .int ((nm g i x : Nat) : Int)) (fun H H' v x e h => h) (sz7 (by omega)) (fun H11 s11 => Same.sqt s11 he10) (fun k o eo H11 s11 Ky hy v H' y => ?_) (fun acc H11 s11 hd11 rel11 => ?_)
      · obtain ⟨rfl, hx⟩ := y
        obtain ⟨o', ho', rfl⟩ := nInts_get hx
        rw [eo] at ho'
        cases ho'
        have hb := hM.out o (List.mem_of_getElem? eo)
        refine ⟨rfl, _, rfl, _, rfl, p5, nms, (o : Int), _, rfl, rfl, isL (s11 _ _ (s10 _ _ (s9 _ _ e8))), hnm o hb.2, ?_⟩
        exact hy _ _ (Same.refl _) rfl
      · have e11 : acc = nInts (M.os.map (nm g i)) := by rw [rel_map rel11]; simp [nInts]
        subst e11
        refine ⟨D6, _, rfl, .inl ⟨isL hd11, fun t12 ht12 => ?_⟩⟩
        have s12 := Same.new (o := .tup (nInts (M.os.map (nm g i)))) ht12
        have e12 : upd H11 t12 (.tup (nInts (M.os.map (nm g i)))) t12 = some (.tup (nInts (M.os.map (nm g i)))) := upd_same
        generalize upd H11 t12 (.tup (nInts (M.os.map (nm g i)))) = H12 at s12 e12 ⊢
        refine ⟨by show 4 ≤ sizeLine; decide, fun t13 ht13 => q t13 _ ((s010.trans (s11.trans s12)).trans (Same.new ht13)) ?_⟩
        have s13 := Same.new (o := .tup [.int (low r : Nat), .int (M.n : Nat), .ref t10, .ref t12]) ht13
        have s9F := s10.trans (s11.trans (s12.trans s13))
        exact ⟨t10, t12, isT upd_same, ⟨as9, isT (s13 _ _ (s12 _ _ (s11 _ _ e10))), hcs9.imp fun _ _ z => CellAt.mono s9F z⟩, isT (s13 _ _ e12)⟩
end
end Cp
/-! The law's model: dropped, merged, replaced. -/
namespace Cp
open PySem PySem.Spec PyProof.Rows L2
section
variable {P : Program} {w : World} {K : PySem.W.Frag} {mg : Str → Option Value} {base : Heap}
def spLDrop (K : PySem.W.Frag) : Sp := fun vs H Q _ => ∃ (r : Bool) (m : Addr) (M : Net) (k : Int), vs = [.ref m, .int k] ∧ ModAt K r H m M ∧ NetOk r M ∧ ∀ t H', Same H H' → LRes K r H' t (done r M (.drop k)) → Q (.ref t) H'
theorem sc_law_dropped : FnScope ["_law_model", "_law_at", "_law_low", "_law_bits", "_law_joins", "_law_rows", "_law_gone", "_law_pair"] ["_law_model", "_law_at"] (defScope s_law_dropped) := ⟨rfl, rfl, rfl, by decide +kernel, rfl, by decide +kernel, by decide +kernel⟩
theorem ok_law_dropped (T : Txt w K mg) : FnR P w K mg base CX0 2 (gA "_law_dropped" K) (spLDrop K) := by
  obtain ⟨fd, F⟩ := T.f_law_dropped
  refine mkR F sc_law_dropped (fun _ _ _ _ _ _ us hl => match us, hl with | [_, _], _ => rfl) (fun vs H Q E h => ?_) (fun cdv A outer s H vs Q E hr h => ?_)
  · obtain ⟨r, m, M, k, rfl, _⟩ := h
    rfl
  · obtain ⟨r, m, M, k, rfl, hm0, hM, q⟩ := h
    obtain ⟨j, e, hm, hj, he⟩ := id hm0
    have nd := sc_law_dropped.nd
    have hn := hM.hi
    have hmany := hM.many
    have hos := hM.outs
    have hlow := low_le r
    obtain ⟨cas, hca, rc⟩ := id hj
    have hcl : cas.length = M.cs.length := rc.1
    refine ⟨_, (pss_cons (ps_asg (pv 0) (pg_tup rfl (pgs_cons (pg_name (i := 2) nd rfl (Or.inl rfl)) (pgs_cons (pg_name (i := 3) nd rfl (Or.inl rfl)) (pgs_cons (pg_name (i := 4) nd rfl (Or.inl rfl)) (pgs_cons (pg_name (i := 5) nd rfl (Or.inl rfl)) pgs_nil))))))
      (pss_cons (ps_if (pt_not (pt_val (rf_call (ok_law_between T) hr T.g_law_between T.k_law_between (pa_cons (pv 1) (pa_cons pe_int (pa_cons (pe_op op_sub (pe_callB call_len (by rfl) T.b_len (by decide +kernel) (pa_cons (pv 4) pa_nil)) pe_int) pa_nil)))))) (pss_one (ps_ret (pe_tup (pa_cons pe_str (pa_cons (pv 1) pa_nil))))) pss_nil)
      (pss_cons (ps_set (i := 6) nd rfl (Or.inr rfl) (pe_op op_add (pe_op op_add (pv 3) pe_int) (pv 1)))
      (pss_cons (ps_if (PW.pt (pw_or (pt_cmpR op_in_seq (pv 6) (pv 5) (by rfl)) (pw_or1 (pt_cmpR (op_ne0 hr.units) (pe_lc (own := [("_law_pair", 7)]) (g := (gName 7)) (tt := (tTest (tOp (rIn K false) (tVar 6) (tVar 7)))) (te := (tVar 7)) rfl nd (pi_tup (pv 4)) (blkOk_by (N := ["_law_model", "_law_at", "_law_low", "_law_bits", "_law_joins", "_law_rows", "_law_gone", "_law_pair"]) (sc := defScope s_law_dropped) (by decide +kernel)) (fun _ _ _ _ _ => (pg_name (i := 7) nd rfl (Or.inl rfl))) (fun _ _ _ _ _ => (pts_one (pt_cmpR op_in_seq (pv 6) (pv 7) (by rfl)))) (fun _ _ _ _ _ => (pv 7))) (pe_lst pa_nil) (nomark _))))) (pss_one (ps_ret (pe_tup (pa_cons pe_str (pa_cons (pv 1) pa_nil))))) pss_nil)
      (pss_one (ps_ret (rf_call (ok_law_without T) hr T.g_law_without T.k_law_without (pa_cons (pv 0) (pa_cons (pv 6) (pa_cons pe_int pa_nil)))))))))), ?_⟩
    refine ⟨_, rfl, m, _, rfl, hm, rfl, _, _, rfl, _, _, rfl, _, _, rfl, _, _, rfl, rfl, ?_⟩
    refine ⟨_, rfl, _, rfl, _, M.cs.length, rfl, .inr ⟨_, hca, by rw [List.length_map]; exact hcl.symm⟩, _, _, rfl, rfl, k, 0, _, rfl, _, rfl, ?_⟩
    by_cases hk : 0 ≤ k ∧ k < M.cs.length
    rotate_left
    · rw [decide_eq_false (by omega)]
      refine iteT ⟨_, rfl, by show 2 ≤ sizeLine; decide, fun t ht => q t _ (Same.new ht) ?_⟩
      rw [show done r M (.drop k) = none from by simp only [done]; rw [if_neg (fun z => hk ⟨z.1, z.2.1⟩)]]
      exact ⟨_, _, isT upd_same⟩
    rw [decide_eq_true (by omega)]
    refine iteF ?_
    obtain ⟨k, rfl⟩ : ∃ m : Nat, k = (m : Int) := ⟨k.toNat, by omega⟩
    have hk2 : k < M.cs.length := by omega
    obtain ⟨g, hg⟩ : ∃ g, M.n + 1 + k = g := ⟨_, rfl⟩
    have eg : V.int ((M.n : Int) + 1 + (k : Int)) = V.int (g : Int) := congrArg V.int (by omega)
    have edone : done r M (.drop (k : Int)) = if 0 ≤ (k : Int) ∧ (k : Int) < M.cs.length ∧ g ∉ M.os ∧ ∀ c ∈ M.cs, c.1 ≠ g ∧ c.2 ≠ g then some (without M g 0) else none := by
      simp only [done, Int.toNat_natCast, hg]
    refine ⟨_, rfl, _, _, rfl, rfl, _, rfl, _, _, rfl, rfl, ?_⟩
    show gName 6 (V.int ((M.n : Int) + 1 + (k : Int))) _ _ _
    rw [eg]
    refine ⟨_, rfl, _, rfl, e, _, rfl, .inr he, rfl, flat_ints _, _, rfl, ?_⟩
    rw [inV_ints]
    by_cases h1 : g ∈ M.os
    · rw [decide_eq_true h1]
      refine iteT ?_
      refine iteT ⟨_, rfl, by show 2 ≤ sizeLine; decide, fun t ht => q t _ (Same.new ht) ?_⟩
      rw [edone, if_neg (fun z => z.2.2.1 h1)]
      exact ⟨_, _, isT upd_same⟩
    rw [decide_eq_false h1]
    refine iteF ?_
    refine ⟨_, rfl, j, rfl, ⟨_, hca⟩, fun D hD => ?_⟩
    let pr : Nat × Nat → Bool := fun c => decide (g ∈ [c.1, c.2])
    refine lc_pure (items := M.cs) hD (w := by
        have w := walk_tup (K := K) (a := j) (xs := cas.map V.ref)
        rwa [List.length_map, hcl] at w) pr (fun _ v _ => True) (fun _ _ _ _ _ h => h) (sz7 (by omega)) (fun H4 s4 => Same.sqt s4 hca) (fun i c ec H4 s4 Ky Kn hy hn2 v H' y => ?_) (fun acc H3 s3 hd3 rel3 => ?_)
    · obtain ⟨rfl, hx⟩ := y
      obtain ⟨pc, hpc, rfl⟩ := refs_get hx
      have hcell : CellAt K H' pc c := CellAt.mono s4 (rc.2 i pc c hpc ec)
      refine ⟨rfl, _, rfl, _, rfl, pc, _, rfl, .inr hcell, rfl, rfl, _, rfl, ?_⟩
      rw [show [V.int (c.1 : Nat), V.int (c.2 : Nat)] = nInts [c.1, c.2] from rfl, inV_ints]
      by_cases h2 : g ∈ [c.1, c.2]
      · rw [decide_eq_true h2]
        exact iteT ⟨_, rfl, hy _ _ (Same.refl _) trivial (decide_eq_true h2)⟩
      · rw [decide_eq_false h2]
        exact iteF (hn2 _ (Same.refl _) (decide_eq_false h2))
    refine ⟨by show 0 ≤ sizeLine; decide, fun p2 hp2 => ?_⟩
    have s4 := Same.new (o := .lst []) hp2
    refine ⟨D, p2, _, rfl, rfl, .inl ⟨isL (s4 _ _ hd3), isL upd_same⟩, _, rfl, ?_⟩
    have s34 := s3.trans s4
    by_cases h3 : ∀ c ∈ M.cs, c.1 ≠ g ∧ c.2 ≠ g
    · have e3 : M.cs.filter pr = [] := List.filter_eq_nil_iff.mpr fun c hc => by
        have := h3 c hc
        simp only [pr, decide_eq_true_eq, List.mem_cons, List.not_mem_nil, or_false]
        omega
      have ea : acc = [] := List.eq_nil_of_length_eq_zero (by rw [rel3.1, e3]; rfl)
      subst ea
      refine iteF ?_
      refine ⟨_, rfl, _, rfl, r, m, M, g, 0, rfl, ModAt.mono s34 hm0, hM, by omega, by omega, fun t H' s' hh => q t H' (s34.trans s') ?_⟩
      rw [edone, if_pos ⟨by omega, by omega, h1, h3⟩]
      exact hh
    · have ea : acc ≠ [] := fun z => h3 fun c hc => by
        have l0 : (M.cs.filter pr).length = 0 := by rw [← rel3.1, z]; rfl
        have := List.filter_eq_nil_iff.mp (List.eq_nil_of_length_eq_zero l0) c hc
        simp only [pr, decide_eq_true_eq, List.mem_cons, List.not_mem_nil, or_false] at this
        omega
      rw [show acc.isEmpty = false by cases acc with | nil => exact absurd rfl ea | cons _ _ => rfl]
      refine iteT ⟨_, rfl, by show 2 ≤ sizeLine; decide, fun t ht => q t _ (s34.trans (Same.new ht)) ?_⟩
      rw [edone, if_neg (fun z => h3 z.2.2.2)]
      exact ⟨_, _, isT upd_same⟩
def spLMerge (K : PySem.W.Frag) : Sp := fun vs H Q _ => ∃ (r : Bool) (m : Addr) (M : Net) (u l : Nat), vs = [.ref m, .int (u : Nat), .int (l : Nat)] ∧ ModAt K r H m M ∧ NetOk r M ∧ ∀ t H', Same H H' → LRes K r H' t (done r M (.merge u l)) → Q (.ref t) H'
theorem sc_law_merged : FnScope ["_law_model", "_law_one", "_law_mate", "_law_low", "_law_bits", "_law_joins", "_law_rows", "_law_spot", "_law_known"] ["_law_model", "_law_one", "_law_mate"] (defScope s_law_merged) := ⟨rfl, rfl, rfl, by decide +kernel, rfl, by decide +kernel, by decide +kernel⟩
theorem ok_law_merged (T : Txt w K mg) : FnR P w K mg base CX0 3 (gA "_law_merged" K) (spLMerge K) := by
  obtain ⟨fd, F⟩ := T.f_law_merged
  refine mkR F sc_law_merged (fun _ _ _ _ _ _ us hl => match us, hl with | [_, _, _], _ => rfl) (fun vs H Q E h => ?_) (fun cdv A outer s H vs Q E hr h => ?_)
  · obtain ⟨r, m, M, u, l, rfl, _⟩ := h
    rfl
  · obtain ⟨r, m, M, u, l, rfl, hm0, hM, q⟩ := h
    obtain ⟨j, e, hm, hj, he⟩ := id hm0
    have nd := sc_law_merged.nd
    have hn := hM.hi
    have hmany := hM.many
    have hos := hM.outs
    have hlow := low_le r
    obtain ⟨cas, hca, rc⟩ := id hj
    have hcl : cas.length = M.cs.length := rc.1
    refine ⟨_, (pss_cons (ps_asg (pv 0) (pg_tup rfl (pgs_cons (pg_name (i := 3) nd rfl (Or.inl rfl)) (pgs_cons (pg_name (i := 4) nd rfl (Or.inl rfl)) (pgs_cons (pg_name (i := 5) nd rfl (Or.inl rfl)) (pgs_cons (pg_name (i := 6) nd rfl (Or.inl rfl)) pgs_nil))))))
      (pss_cons (ps_for PassesOwn.never rfl (pi_tup (pe_tup (pa_cons (pv 1) (pa_cons (pv 2) pa_nil)))) (pg_name (i := 7) nd rfl (Or.inl rfl))
        (pss_one (ps_if (pt_not (pt_val (rf_call (ok_law_between T) hr T.g_law_between T.k_law_between (pa_cons (pv 7) (pa_cons (pv 3) (pa_cons (pe_op op_add (pv 4) (pe_callB call_len (by rfl) T.b_len (by decide +kernel) (pa_cons (pv 5) pa_nil))) pa_nil)))))) (pss_one (ps_ret (pe_tup (pa_cons pe_str (pa_cons (pv 7) pa_nil))))) pss_nil)))
      (pss_cons (ps_set (i := 8) nd rfl (Or.inl rfl) (rf_call (ok_law_orders T) hr T.g_law_orders T.k_law_orders (pa_cons (pv 0) pa_nil)))
      (pss_cons (ps_if (PW.pt (pw_or (pt_cmpR op_le (pv 2) (pv 4) (nomark _)) (pw_or (pt_cmpR op_le (pv 2) (pv 1) (nomark _)) (pw_or1 (pt_cmpR (op_neD hr.units) (pe_ix ix_list (pv 8) (pv 1) (fun _ _ => rfl)) (pe_ix ix_list (pv 8) (pv 2) (fun _ _ => rfl)) (nomark _)))))) (pss_one (ps_ret (pe_tup (pa_cons pe_str (pa_cons (pv 1) (pa_cons (pv 2) pa_nil)))))) pss_nil)
      (pss_one (ps_ret (rf_call (ok_law_without T) hr T.g_law_without T.k_law_without (pa_cons (pv 0) (pa_cons (pv 2) (pa_cons (pv 1) pa_nil)))))))))), ?_⟩
    refine ⟨_, rfl, m, _, rfl, hm, rfl, _, _, rfl, _, _, rfl, _, _, rfl, _, _, rfl, rfl, ?_⟩
    refine ⟨_, rfl, _, rfl, by show 2 ≤ sizeLine; decide, fun t ht => ?_⟩
    have s1 := Same.new (o := .tup [.int (u : Nat), .int (l : Nat)]) ht
    have ht1 : upd H t (.tup [.int (u : Nat), .int (l : Nat)]) t = some (.tup [.int (u : Nat), .int (l : Nat)]) := upd_same
    generalize upd H t (.tup [.int (u : Nat), .int (l : Nat)]) = H1 at s1 ht1 ⊢
    refine ⟨t, rfl, ⟨_, isT ht1⟩, ?_⟩
    refine for_it walk_tup (fun i σ H2 => ∃ z, σ = [some (.ref m), some (.int (u : Nat)), some (.int (l : Nat)), some (.int (low r : Nat)), some (.int (M.n : Nat)), some (.ref j), some (.ref e), z, none] ∧ Same H1 H2 ∧ ∀ v ∈ [u, l].take i, inN r M v)
      ⟨none, rfl, Same.refl _, fun v hv => by cases hv⟩ (fun i σ H2 _ ⟨z, e, s2, _⟩ => Same.sqt s2 (isT ht1)) (fun i x σ H2 H3 hi ⟨z, e, s2, hin⟩ yy => ?_) (fun σ H2 ⟨z, e, s2, hin⟩ => ?_)
    · obtain ⟨rfl, hx⟩ := yy
      subst e
      obtain ⟨v, hv, rfl⟩ : ∃ v : Nat, [u, l][i]? = some v ∧ x = .int (v : Nat) := by
        match i, hi, hx with
        | 0, _, hx => exact ⟨u, rfl, (Option.some.inj hx).symm⟩
        | 1, _, hx => exact ⟨l, rfl, (Option.some.inj hx).symm⟩
      have hil : i < 2 := hi
      have hti : ∀ i, i < 2 → [u, l][i]? = some v → [u, l].take (i + 1) = [u, l].take i ++ [v] := fun i h e => by
        match i, h, e with
        | 0, _, e => cases e; rfl
        | 1, _, e => cases e; rfl
      refine ⟨_, rfl, _, rfl, _, rfl, _, rfl, _, M.cs.length, rfl, .inr ⟨_, Same.sqt (s1.trans s2) hca, by rw [List.length_map]; exact hcl.symm⟩, _, _, rfl, rfl, (v : Int), (low r : Nat), _, rfl, _, rfl, ?_⟩
      by_cases hv2 : inN r M v
      rotate_left
      · rw [decide_eq_false (fun z => hv2 ⟨by omega, by unfold top1; omega⟩)]
        refine iteT ⟨_, rfl, by show 2 ≤ sizeLine; decide, fun t ht => q t _ ((s1.trans s2).trans (Same.new ht)) ?_⟩
        rw [show done r M (.merge u l) = none from by
          simp only [done]
          rw [if_neg]
          rintro ⟨z1, z2, _⟩
          rcases List.mem_cons.mp (List.mem_of_getElem? hv) with q | q
          · exact hv2 (q ▸ z1)
          · exact hv2 (List.mem_singleton.mp q ▸ z2)]
        exact ⟨_, _, isT upd_same⟩
      rw [decide_eq_true (by have h1 := hv2.1; have h2 := hv2.2; unfold top1 at h2; omega)]
      refine iteF ⟨_, rfl, s2, fun x hx => ?_⟩
      rw [hti i hil hv] at hx
      rcases List.mem_append.mp hx with q | q
      · exact hin x q
      · rw [List.mem_singleton.mp q]; exact hv2
    · subst e
      have hu : inN r M u := hin u (List.mem_cons_self ..)
      have hl : inN r M l := hin l (List.mem_cons_of_mem _ (List.mem_cons_self ..))
      have s12 := s1.trans s2
      have hbu := hu.2
      have hbl := hl.2
      unfold top1 at hbu hbl
      refine ⟨_, rfl, r, m, M, rfl, ModAt.mono s12 hm0, hM, fun H3 b as s3 hb rel => ?_⟩
      have s13 := s12.trans s3
      have hlen := ords_len M.n M.cs
      have gu : (ords M.n M.cs)[u]? = some ((ords M.n M.cs).getD u []) := by rw [List.getD_eq_getElem?_getD, List.getElem?_eq_getElem (by omega)]; rfl
      have gl : (ords M.n M.cs)[l]? = some ((ords M.n M.cs).getD l []) := by rw [List.getD_eq_getElem?_getD, List.getElem?_eq_getElem (by omega)]; rfl
      obtain ⟨au, hau, ou⟩ := rel.get gu
      obtain ⟨al, hal, ol⟩ := rel.get gl
      have bad : ∀ t, ¬ (M.n < l ∧ u < l ∧ (ords M.n M.cs).getD u [] = (ords M.n M.cs).getD l []) → H3 t = none → Q (.ref t) (upd H3 t (.tup [.str "alike", .int (u : Nat), .int (l : Nat)])) := fun t hb ht => by
        refine q t _ (s13.trans (Same.new ht)) ?_
        rw [show done r M (.merge u l) = none from by simp only [done]; rw [if_neg (fun z => hb z.2.2)]]
        exact ⟨_, _, isT upd_same⟩
      refine ⟨_, rfl, _, rfl, _, _, rfl, rfl, _, rfl, ?_⟩
      by_cases h1 : l ≤ M.n
      · rw [decide_eq_true (by omega)]
        refine iteT ?_
        exact iteT ⟨_, rfl, _, rfl, by show 3 ≤ sizeLine; decide, fun t ht => bad t (fun z => by omega) ht⟩
      rw [decide_eq_false (by omega)]
      refine iteF ⟨_, rfl, _, rfl, _, _, rfl, rfl, _, rfl, ?_⟩
      by_cases h2 : l ≤ u
      · rw [decide_eq_true (by omega)]
        refine iteT ?_
        exact iteT ⟨_, rfl, _, rfl, by show 3 ≤ sizeLine; decide, fun t ht => bad t (fun z => by omega) ht⟩
      rw [decide_eq_false (by omega)]
      refine iteF ?_
      refine ⟨_, rfl, _, rfl, b, _, (u : Int), _, rfl, rfl, isL hb, atI_nat (get_refs hau), ?_⟩
      refine ⟨_, rfl, _, rfl, b, _, (l : Int), _, rfl, rfl, isL hb, atI_nat (get_refs hal), ?_⟩
      refine ⟨_, _, dp_ints ou, dp_ints ol, shp_ints _, shp_ints _, _, rfl, ?_⟩
      rw [eq_ints]
      by_cases h3 : (ords M.n M.cs).getD u [] = (ords M.n M.cs).getD l []
      · rw [decide_eq_true h3]
        refine iteF ?_
        refine ⟨_, rfl, _, rfl, _, rfl, r, m, M, l, u, rfl, ModAt.mono s13 hm0, hM, by omega, hbl, fun t H' s' hh => q t H' (s13.trans s') ?_⟩
        rw [show done r M (.merge u l) = some (without M l u) from by simp only [done]; rw [if_pos ⟨hu, hl, by omega, by omega, h3⟩]]
        exact hh
      · rw [decide_eq_false h3]
        exact iteT ⟨_, rfl, _, rfl, by show 3 ≤ sizeLine; decide, fun t ht => bad t (fun z => h3 z.2.2) ht⟩
def spLRep (K : PySem.W.Frag) : Sp := fun vs H Q _ => ∃ (r : Bool) (m p : Addr) (M : Net) (ns : List Nat), vs = [.ref m, .ref p] ∧ ModAt K r H m M ∧ NetOk r M ∧ ns.length = M.os.length ∧ (SqL K H p (nInts ns) ∨ SqT K H p (nInts ns)) ∧ ∀ t H', Same H H' → LRes K r H' t (done r M (.change ns)) → Q (.ref t) H'
theorem sc_law_replaced : FnScope ["_law_model", "_law_some", "_law_low", "_law_bits", "_law_joins", "_law_rows", "_law_wrong", "_law_at", "_law_spot"] ["_law_model", "_law_some"] (defScope s_law_replaced) := ⟨rfl, rfl, rfl, by decide +kernel, rfl, by decide +kernel, by decide +kernel⟩
theorem ok_law_replaced (T : Txt w K mg) : FnR P w K mg base CX0 2 (gA "_law_replaced" K) (spLRep K) := by
  obtain ⟨fd, F⟩ := T.f_law_replaced
  refine mkR F sc_law_replaced (fun _ _ _ _ _ _ us hl => match us, hl with | [_, _], _ => rfl) (fun vs H Q E h => ?_) (fun cdv A outer s H vs Q E hr h => ?_)
  · obtain ⟨r, m, p, M, ns, rfl, _⟩ := h
    rfl
  · obtain ⟨r, m, p, M, ns, rfl, hm0, hM, hl, hp, q⟩ := h
    obtain ⟨j, e, hm, hj, he⟩ := id hm0
    have nd := sc_law_replaced.nd
    have hn := hM.hi
    have hmany := hM.many
    have hos := hM.outs
    have hlow := low_le r
    obtain ⟨cas, hca, rc⟩ := id hj
    have hcl : cas.length = M.cs.length := rc.1
    refine ⟨_, (pss_cons (ps_asg (pv 0) (pg_tup rfl (pgs_cons (pg_name (i := 2) nd rfl (Or.inr rfl)) (pgs_cons (pg_name (i := 3) nd rfl (Or.inr rfl)) (pgs_cons (pg_name (i := 4) nd rfl (Or.inr rfl)) (pgs_cons (pg_name (i := 5) nd rfl (Or.inl rfl)) pgs_nil))))))
      (pss_cons (ps_if (PW.pt (pw_or (pt_not (pt_val (pe_callB call_isiT (by rfl) T.b_isinstance (by decide +kernel) (pa_cons (pv 1) (pa_cons (pe_tup (pa_cons (pe_bltn (v := .ty "tuple") (by rfl) T.b_tuple (by decide +kernel) rfl) (pa_cons (pe_bltn (v := .ty "list") (by rfl) T.b_list (by decide +kernel) rfl) pa_nil))) pa_nil))))) (pw_or1 (pt_cmpR op_ne (pe_callB call_len (by rfl) T.b_len (by decide +kernel) (pa_cons (pv 1) pa_nil)) (pe_callB call_len (by rfl) T.b_len (by decide +kernel) (pa_cons (pv 5) pa_nil)) (nomark _))))) (pss_one (ps_ret (pe_tup (pa_cons pe_str (pa_cons pe_non pa_nil))))) pss_nil)
      (pss_cons (ps_setLc (i := 6) (own := [("_law_at", 7), ("_law_spot", 8)]) (g := (gTup K 2 (gCons (gName 7) (gCons (gName 8) gNil)))) (tt := (tNot (tB (tCR spBetween (tCons (tVar 8) (tCons (tVar 2) (tCons (tOp (rI0 fun i j => .int (i + j)) (tVar 3) (tCB (fun xs H Q => ∃ x n, xs = [x] ∧ LenV K x H n ∧ Q (.int n) H) (tCons (tVar 4) tNil))) tNil))))))) (te := (tVar 7)) rfl nd rfl rfl (sw_true rfl rfl rfl (by decide +kernel)) (pi_enumT (by rfl) T.b_enumerate (pa_cons (pv 1) pa_nil)) (blkOk_by (N := ["_law_model", "_law_some", "_law_low", "_law_bits", "_law_joins", "_law_rows", "_law_wrong", "_law_at", "_law_spot"]) (sc := defScope s_law_replaced) (by decide +kernel)) (fun _ _ _ _ _ => (pg_tup rfl (pgs_cons (pg_name (i := 7) nd rfl (Or.inl rfl)) (pgs_cons (pg_name (i := 8) nd rfl (Or.inl rfl)) pgs_nil)))) (fun _ _ _ _ _ => (pts_one (pt_not (pt_val (rf_call (ok_law_between T) hr T.g_law_between T.k_law_between (pa_cons (pv 8) (pa_cons (pv 2) (pa_cons (pe_op op_add (pv 3) (pe_callB call_len (by rfl) T.b_len (by decide +kernel) (pa_cons (pv 4) pa_nil))) pa_nil)))))))) (fun _ _ _ _ _ => (pv 7)))
      (pss_one (ps_ret (pe_ifExp (pt_cmpR (op_ne0 hr.units) (pv 6) (pe_lst pa_nil) (nomark _)) (pe_tup (pa_cons pe_str (pa_cons (pe_ix ix_list (pv 6) pe_int (fun _ _ => rfl)) pa_nil))) (pe_tup (pa_cons (pv 2) (pa_cons (pv 3) (pa_cons (pv 4) (pa_cons (pe_callTy call_tuple_of (by rfl) T.b_tuple (by decide +kernel) (pa_cons (pv 1) pa_nil)) pa_nil))))))))))), ?_⟩
    refine ⟨_, rfl, m, _, rfl, hm, rfl, _, _, rfl, _, _, rfl, _, _, rfl, _, _, rfl, rfl, ?_⟩
    refine ⟨_, rfl, by show 2 ≤ sizeLine; decide, fun tp htp => ?_⟩
    have s1 := Same.new (o := .tup [.ty "tuple", .ty "list"]) htp
    have e1 : upd H tp (.tup [.ty "tuple", .ty "list"]) tp = some (.tup [.ty "tuple", .ty "list"]) := upd_same
    generalize upd H tp (.tup [.ty "tuple", .ty "list"]) = H1 at s1 e1 ⊢
    have hp1 : SqL K H1 p (nInts ns) ∨ SqT K H1 p (nInts ns) := hp.imp (Same.sql s1) (Same.sqt s1)
    have hty : ∃ t, TyX K H1 (.ref p) t ∧ PySem.W.kitAny K t [.type "tuple", .type "list"] = some true := by
      rcases hp1 with z | z
      · exact ⟨_, tyx_lst z, kitAny_cons (b := false) (kit_ty (by decide +kernel)) (fun _ => kitAny_cons (b := true) (kit_ty (by decide +kernel)) (fun z => by cases z) (fun _ => rfl)) (fun z => by cases z)⟩
      · exact ⟨_, tyx_tup z, kitAny_cons (b := true) (kit_ty (by decide +kernel)) (fun z => by cases z) (fun _ => rfl)⟩
    obtain ⟨ty, ht1, ht2⟩ := hty
    refine ⟨_, tp, _, ty, _, true, rfl, e1, .cons (.ty _) (.cons (.ty _) .nil), ht1, ht2, true, rfl, iteF ?_⟩
    have hlen : LenV K (.ref p) H1 M.os.length := by
      rcases hp1 with z | z
      · exact .inl ⟨_, z, by rw [nInts_len, hl]⟩
      · exact .inr ⟨_, z, by rw [nInts_len, hl]⟩
    refine ⟨_, rfl, _, _, rfl, hlen, _, rfl, _, M.os.length, rfl, .inr ⟨_, Same.sqt s1 he, by rw [nInts_len]⟩, rfl, _, rfl, ?_⟩
    rw [dInt, decide_eq_true rfl]
    refine iteF ?_
    let pr : Nat → Bool := fun v => decide (¬ inN r M v)
    have hnone : ∀ acc : List V, acc.length = (ns.filter pr).length → (acc = [] ↔ ∀ v ∈ ns, inN r M v) := fun acc ha => by
      constructor
      · intro z v hv
        rw [z] at ha
        have := List.filter_eq_nil_iff.mp (List.eq_nil_of_length_eq_zero ha.symm) v hv
        simpa [pr] using this
      · intro z
        have : ns.filter pr = [] := List.filter_eq_nil_iff.mpr fun v hv => by simp [pr, z v hv]
        exact List.eq_nil_of_length_eq_zero (by rw [ha, this]; rfl)
    refine ⟨_, rfl, p, nInts ns, rfl, ?_⟩
    rcases hp1 with z | z
    · refine .inl ⟨z, fun D hD => ?_⟩
      refine lc_pure (items := ns) hD (w := by have w := walk_enum (K := K) (a := p) (xs := nInts ns); rwa [nInts_len] at w) pr (fun _ v x => True) (fun _ _ _ _ _ h => h) (sz7 (by omega)) (fun H4 s4 => Same.sql s4 z) (fun i x ex H4 s4 Ky Kn hy hn2 v H' y => ?_) (fun acc H3 s3 hd3 rel3 => ?_)
      · obtain ⟨T', i', p', rfl, hT, rfl, ei, hx⟩ := y
        obtain ⟨o, ho, rfl⟩ := nInts_get hx
        cases ei
        rw [ex] at ho
        cases ho
        have sT := Same.new (o := .tup [.int (i : Nat), .int (x : Nat)]) hT
        refine ⟨T', _, rfl, isT upd_same, rfl, _, _, rfl, _, _, rfl, rfl, rfl, ?_⟩
        refine ⟨_, rfl, _, rfl, _, rfl, _, rfl, _, M.cs.length, rfl, .inr ⟨_, Same.sqt (s1.trans (s4.trans sT)) hca, by rw [List.length_map]; exact hcl.symm⟩, _, _, rfl, rfl, (x : Int), (low r : Nat), _, rfl, _, rfl, ?_⟩
        by_cases hv : inN r M x
        · rw [decide_eq_true (by have h1 := hv.1; have h2 := hv.2; unfold top1 at h2; omega)]
          exact iteF (hn2 _ sT (decide_eq_false fun z => z hv))
        · rw [decide_eq_false (fun z => hv ⟨by omega, by unfold top1; omega⟩)]
          exact iteT ⟨_, rfl, hy _ _ sT trivial (decide_eq_true hv)⟩
      · have hz := hnone acc rel3.1
        refine ⟨_, rfl, by show 0 ≤ sizeLine; decide, fun p2 hp2 => ?_⟩
        have s4' := Same.new (o := .lst []) hp2
        have hd4 := s4' _ _ hd3
        refine ⟨D, p2, acc, rfl, rfl, .inl ⟨isL hd4, isL upd_same⟩, _, rfl, ?_⟩
        have s4 := s3.trans s4'
        have s14 := s1.trans s4
        generalize upd H3 p2 (.lst []) = H4 at s4 s14 hd4 ⊢
        by_cases h3 : ∀ v ∈ ns, inN r M v
        · rw [hz.mpr h3]
          refine iteF ?_
          have good : ∀ (t : Addr) (H' : Hp) (e' : Addr), Same H H' → SqT K H' t [.int (low r : Nat), .int (M.n : Nat), .ref j, .ref e'] → SqT K H' e' (nInts ns) → LRes K r H' t (done r M (.change ns)) := fun t H' e' sF g1 g2 => by
            rw [show done r M (.change ns) = some ⟨M.n, M.cs, ns⟩ from by simp only [done]; rw [if_pos ⟨hl, h3⟩]]
            exact ⟨j, e', g1, CellsT.mono sF hj, g2⟩
          refine ⟨_, rfl, _, rfl, _, rfl, _, rfl, p, nInts ns, rfl, ?_⟩
          refine .inl ⟨Same.sql s4 z, fun t10 ht10 => ?_⟩
          refine ⟨by show 4 ≤ sizeLine; decide, fun t11 ht11 => ?_⟩
          have s10 := Same.new (o := .tup (nInts ns)) ht10
          have e10 : upd H4 t10 (.tup (nInts ns)) t10 = some (.tup (nInts ns)) := upd_same
          generalize upd H4 t10 (.tup (nInts ns)) = H10 at s10 e10 ht11 ⊢
          have s11 := Same.new (o := .tup [.int (low r : Nat), .int (M.n : Nat), .ref j, .ref t10]) ht11
          refine q t11 _ ((s14.trans s10).trans s11) (good _ _ t10 ((s14.trans s10).trans s11) (isT upd_same) (isT (s11 _ _ e10)))
        · have ha : acc ≠ [] := fun z => h3 (hz.mp z)
          cases acc with
          | nil => exact absurd rfl ha
          | cons a0 as0 =>
            refine iteT ⟨_, rfl, D, _, 0, a0, rfl, rfl, isL hd4, atI_nat (i := 0) rfl, by show 2 ≤ sizeLine; decide, fun t ht => q t _ (s14.trans (Same.new ht)) ?_⟩
            rw [show done r M (.change ns) = none from by simp only [done]; rw [if_neg (fun z => h3 z.2)]]
            exact ⟨_, _, isT upd_same⟩
    · refine .inr ⟨z, fun D hD => ?_⟩
      refine lc_pure (items := ns) hD (w := by have w := walk_enumT (K := K) (a := p) (xs := nInts ns); rwa [nInts_len] at w) pr (fun _ v x => True) (fun _ _ _ _ _ h => h) (sz7 (by omega)) (fun H4 s4 => Same.sqt s4 z) (fun i x ex H4 s4 Ky Kn hy hn2 v H' y => ?_) (fun acc H3 s3 hd3 rel3 => ?_)
      · obtain ⟨T', i', p', rfl, hT, rfl, ei, hx⟩ := y
        obtain ⟨o, ho, rfl⟩ := nInts_get hx
        cases ei
        rw [ex] at ho
        cases ho
        have sT := Same.new (o := .tup [.int (i : Nat), .int (x : Nat)]) hT
        refine ⟨T', _, rfl, isT upd_same, rfl, _, _, rfl, _, _, rfl, rfl, rfl, ?_⟩
        refine ⟨_, rfl, _, rfl, _, rfl, _, rfl, _, M.cs.length, rfl, .inr ⟨_, Same.sqt (s1.trans (s4.trans sT)) hca, by rw [List.length_map]; exact hcl.symm⟩, _, _, rfl, rfl, (x : Int), (low r : Nat), _, rfl, _, rfl, ?_⟩
        by_cases hv : inN r M x
        · rw [decide_eq_true (by have h1 := hv.1; have h2 := hv.2; unfold top1 at h2; omega)]
          exact iteF (hn2 _ sT (decide_eq_false fun z => z hv))
        · rw [decide_eq_false (fun z => hv ⟨by omega, by unfold top1; omega⟩)]
          exact iteT ⟨_, rfl, hy _ _ sT trivial (decide_eq_true hv)⟩
      · have hz := hnone acc rel3.1
        refine ⟨_, rfl, by show 0 ≤ sizeLine; decide, fun p2 hp2 => ?_⟩
        have s4' := Same.new (o := .lst []) hp2
        have hd4 := s4' _ _ hd3
        refine ⟨D, p2, acc, rfl, rfl, .inl ⟨isL hd4, isL upd_same⟩, _, rfl, ?_⟩
        have s4 := s3.trans s4'
        have s14 := s1.trans s4
        generalize upd H3 p2 (.lst []) = H4 at s4 s14 hd4 ⊢
        by_cases h3 : ∀ v ∈ ns, inN r M v
        · rw [hz.mpr h3]
          refine iteF ?_
          have good : ∀ (t : Addr) (H' : Hp) (e' : Addr), Same H H' → SqT K H' t [.int (low r : Nat), .int (M.n : Nat), .ref j, .ref e'] → SqT K H' e' (nInts ns) → LRes K r H' t (done r M (.change ns)) := fun t H' e' sF g1 g2 => by
            rw [show done r M (.change ns) = some ⟨M.n, M.cs, ns⟩ from by simp only [done]; rw [if_pos ⟨hl, h3⟩]]
            exact ⟨j, e', g1, CellsT.mono sF hj, g2⟩
          refine ⟨_, rfl, _, rfl, _, rfl, _, rfl, p, nInts ns, rfl, ?_⟩
          refine .inr ⟨Same.sqt s4 z, by show 4 ≤ sizeLine; decide, fun t11 ht11 => ?_⟩
          have s11 := Same.new (o := .tup [.int (low r : Nat), .int (M.n : Nat), .ref j, .ref p]) ht11
          exact q t11 _ (s14.trans s11) (good _ _ p (s14.trans s11) (isT upd_same) (Same.sqt s11 (Same.sqt s4 z)))
        · have ha : acc ≠ [] := fun z => h3 (hz.mp z)
          cases acc with
          | nil => exact absurd rfl ha
          | cons a0 as0 =>
            refine iteT ⟨_, rfl, D, _, 0, a0, rfl, rfl, isL hd4, atI_nat (i := 0) rfl, by show 2 ≤ sizeLine; decide, fun t ht => q t _ (s14.trans (Same.new ht)) ?_⟩
            rw [show done r M (.change ns) = none from by simp only [done]; rw [if_neg (fun z => h3 z.2)]]
            exact ⟨_, _, isT upd_same⟩
end
end Cp
/-! The law's model: done. -/
namespace Cp
open PySem PySem.Spec PyProof.Rows L2
section
variable {P : Program} {w : World} {K : PySem.W.Frag} {mg : Str → Option Value} {base : Heap}
/-- a deed whose outputs are as many as the network's -/
def DeedFits (M : Net) : Deed → Prop
  | .change ns => ns.length = M.os.length
  | _ => True
def spLDone (K : PySem.W.Frag) : Sp := fun vs H Q _ => ∃ (r : Bool) (m e : Addr) (M : Net) (d : Deed), vs = [.ref m, .ref e] ∧ ModAt K r H m M ∧ NetOk r M ∧ DeedAt K H e d ∧ DeedFits M d ∧ ∀ t H', Same H H' → LRes K r H' t (done r M d) → Q (.ref t) H'
theorem sc_law_done : FnScope ["_law_model", "_law_deed"] ["_law_model", "_law_deed"] (defScope s_law_done) := ⟨rfl, rfl, rfl, by decide +kernel, rfl, by decide +kernel, by decide +kernel⟩
theorem ok_law_done (T : Txt w K mg) : FnR P w K mg base CX0 4 (gA "_law_done" K) (spLDone K) := by
  obtain ⟨fd, F⟩ := T.f_law_done
  refine mkR F sc_law_done (fun _ _ _ _ _ _ us hl => match us, hl with | [_, _], _ => rfl) (fun vs H Q E h => ?_) (fun cdv A outer s H vs Q E hr h => ?_)
  · obtain ⟨r, m, e, M, d, rfl, _⟩ := h
    rfl
  · obtain ⟨r, m, e, M, d, rfl, hm, hM, hd, hf, q⟩ := h
    have nd := sc_law_done.nd
    refine ⟨_, (pss_cons (ps_if (pt_cmpR op_eq (pe_ix ix_tup (pv 1) pe_int (fun _ _ => rfl)) pe_str (nomark _)) (pss_one (ps_ret (rf_call (ok_law_rewired T) hr T.g_law_rewired T.k_law_rewired (pa_cons (pv 0) (pa_cons (pe_ix ix_tup (pv 1) pe_int (fun _ _ => rfl)) (pa_cons (pe_ix ix_tup (pv 1) pe_int (fun _ _ => rfl)) pa_nil)))))) pss_nil)
      (pss_cons (ps_if (pt_cmpR op_eq (pe_ix ix_tup (pv 1) pe_int (fun _ _ => rfl)) pe_str (nomark _)) (pss_one (ps_ret (rf_call (ok_law_added T) hr T.g_law_added T.k_law_added (pa_cons (pv 0) (pa_cons (pe_ix ix_tup (pv 1) pe_int (fun _ _ => rfl)) (pa_cons (pe_ix ix_tup (pv 1) pe_int (fun _ _ => rfl)) pa_nil)))))) pss_nil)
      (pss_cons (ps_if (pt_cmpR op_eq (pe_ix ix_tup (pv 1) pe_int (fun _ _ => rfl)) pe_str (nomark _)) (pss_one (ps_ret (rf_call (ok_law_dropped T) hr T.g_law_dropped T.k_law_dropped (pa_cons (pv 0) (pa_cons (pe_ix ix_tup (pv 1) pe_int (fun _ _ => rfl)) pa_nil))))) pss_nil)
      (pss_one (ps_ret (pe_ifExp (pt_cmpR op_eq (pe_ix ix_tup (pv 1) pe_int (fun _ _ => rfl)) pe_str (nomark _)) (rf_call (ok_law_merged T) hr T.g_law_merged T.k_law_merged (pa_cons (pv 0) (pa_cons (pe_ix ix_tup (pv 1) pe_int (fun _ _ => rfl)) (pa_cons (pe_ix ix_tup (pv 1) pe_int (fun _ _ => rfl)) pa_nil)))) (rf_call (ok_law_replaced T) hr T.g_law_replaced T.k_law_replaced (pa_cons (pv 0) (pa_cons (pe_ix ix_tup (pv 1) pe_int (fun _ _ => rfl)) pa_nil))))))))), ?_⟩
    cases d with
    | rewire wk i v =>
      obtain ⟨p, g1, g2⟩ := hd
      refine ⟨_, rfl, e, _, 0, _, rfl, rfl, g1, rfl, rfl, _, rfl, ite_t (by decide +kernel) ?_⟩
      refine ⟨_, rfl, _, rfl, e, _, 1, _, rfl, rfl, g1, rfl, _, rfl, e, _, 2, _, rfl, rfl, g1, rfl, ?_⟩
      exact ⟨r, m, p, M, wk, i, v, rfl, hm, hM, g2, q⟩
    | add u l =>
      refine ⟨_, rfl, e, _, 0, _, rfl, rfl, hd, rfl, rfl, _, rfl, ite_f (by decide +kernel) ?_⟩
      refine ⟨_, rfl, e, _, 0, _, rfl, rfl, hd, rfl, rfl, _, rfl, ite_t (by decide +kernel) ?_⟩
      refine ⟨_, rfl, _, rfl, e, _, 1, _, rfl, rfl, hd, rfl, _, rfl, e, _, 2, _, rfl, rfl, hd, rfl, ?_⟩
      exact ⟨r, m, M, u, l, rfl, hm, hM, q⟩
    | drop k =>
      refine ⟨_, rfl, e, _, 0, _, rfl, rfl, hd, rfl, rfl, _, rfl, ite_f (by decide +kernel) ?_⟩
      refine ⟨_, rfl, e, _, 0, _, rfl, rfl, hd, rfl, rfl, _, rfl, ite_f (by decide +kernel) ?_⟩
      refine ⟨_, rfl, e, _, 0, _, rfl, rfl, hd, rfl, rfl, _, rfl, ite_t (by decide +kernel) ?_⟩
      refine ⟨_, rfl, _, rfl, e, _, 1, _, rfl, rfl, hd, rfl, ?_⟩
      exact ⟨r, m, M, k, rfl, hm, hM, q⟩
    | merge u l =>
      refine ⟨_, rfl, e, _, 0, _, rfl, rfl, hd, rfl, rfl, _, rfl, ite_f (by decide +kernel) ?_⟩
      refine ⟨_, rfl, e, _, 0, _, rfl, rfl, hd, rfl, rfl, _, rfl, ite_f (by decide +kernel) ?_⟩
      refine ⟨_, rfl, e, _, 0, _, rfl, rfl, hd, rfl, rfl, _, rfl, ite_f (by decide +kernel) ?_⟩
      refine ⟨_, rfl, e, _, 0, _, rfl, rfl, hd, rfl, rfl, _, rfl, ite_t (by decide +kernel) ?_⟩
      refine ⟨_, rfl, _, rfl, e, _, 1, _, rfl, rfl, hd, rfl, _, rfl, e, _, 2, _, rfl, rfl, hd, rfl, ?_⟩
      exact ⟨r, m, M, u, l, rfl, hm, hM, q⟩
    | change ns =>
      obtain ⟨p, g1, g2⟩ := hd
      refine ⟨_, rfl, e, _, 0, _, rfl, rfl, g1, rfl, rfl, _, rfl, ite_f (by decide +kernel) ?_⟩
      refine ⟨_, rfl, e, _, 0, _, rfl, rfl, g1, rfl, rfl, _, rfl, ite_f (by decide +kernel) ?_⟩
      refine ⟨_, rfl, e, _, 0, _, rfl, rfl, g1, rfl, rfl, _, rfl, ite_f (by decide +kernel) ?_⟩
      refine ⟨_, rfl, e, _, 0, _, rfl, rfl, g1, rfl, rfl, _, rfl, ite_f (by decide +kernel) ?_⟩
      refine ⟨_, rfl, _, rfl, e, _, 1, _, rfl, rfl, g1, rfl, ?_⟩
      exact ⟨r, m, p, M, ns, rfl, hm, hM, hf, g2, q⟩
end
end Cp
/-! The law's net, wire. -/
namespace Cp
open PySem PySem.Spec PyProof.Rows L2
section
variable {P : Program} {w : World} {K : PySem.W.Frag} {mg : Str → Option Value} {base : Heap}
def spLNet (K : PySem.W.Frag) : Sp := fun vs H Q _ => ∃ (r : Bool) (m : Addr) (M : Net), vs = [.ref m] ∧ ModAt K r H m M ∧ NetOk r M ∧ ∀ x H', Same H H' → H x = none → NetAt K r H' x M → Q (.ref x) H'
theorem sc_law_net : FnScope ["_law_model", "_law_low", "_law_bits", "_law_joins", "_law_rows"] ["_law_model"] (defScope s_law_net) := ⟨rfl, rfl, rfl, by decide +kernel, rfl, by decide +kernel, by decide +kernel⟩
theorem ok_law_net (T : Txt w K mg) : FnR P w K mg base CX0 8 (gA "_law_net" K) (spLNet K) := by
  obtain ⟨fd, F⟩ := T.f_law_net
  refine mkR F sc_law_net (fun _ _ _ _ _ _ us hl => match us, hl with | [_], _ => rfl) (fun vs H Q E h => ?_) (fun cdv A outer s H vs Q E hr h => ?_)
  · obtain ⟨r, m, M, rfl, _⟩ := h
    rfl
  · obtain ⟨r, m, M, rfl, hm0, hM, q⟩ := h
    obtain ⟨j, e, hm, hj, he⟩ := id hm0
    have nd := sc_law_net.nd
    refine ⟨_, (pss_cons (ps_asg (pv 0) (pg_tup rfl (pgs_cons (pg_name (i := 1) nd rfl (Or.inl rfl)) (pgs_cons (pg_name (i := 2) nd rfl (Or.inl rfl)) (pgs_cons (pg_name (i := 3) nd rfl (Or.inl rfl)) (pgs_cons (pg_name (i := 4) nd rfl (Or.inl rfl)) pgs_nil))))))
      (pss_one (ps_ret (pe_ifExp (pt_cmpR op_eq (pv 1) pe_int (nomark _)) (rf_make T.mk_Ring (ok_Network_init T true) hr T.g_Ring (pa_cons (pv 2) (pa_cons (pv 3) (pa_cons (pv 4) pa_nil)))) (rf_make T.mk_Network (ok_Network_init T false) hr T.g_Network (pa_cons (pv 2) (pa_cons (pv 3) (pa_cons (pv 4) pa_nil)))))))), ?_⟩
    refine ⟨_, rfl, m, _, rfl, hm, rfl, _, _, rfl, _, _, rfl, _, _, rfl, _, _, rfl, rfl, ?_⟩
    have ec : CellsA K H j M.cs := CellsT.any hj
    refine ⟨_, rfl, rfl, _, rfl, ?_⟩
    cases r with
    | true =>
      refine ite_t (by decide +kernel) ?_
      exact ⟨_, rfl, _, rfl, _, rfl, mk_net ec (.inr he) hM q⟩
    | false =>
      refine ite_f (by decide +kernel) ?_
      exact ⟨_, rfl, _, rfl, _, rfl, mk_net ec (.inr he) hM q⟩
def WireIn (r : Bool) (M : Net) (wk : Wk) (i : Nat) : Prop := (wk = .out → low r ≤ i ∧ i ≤ M.n) ∧ (wk ≠ .out → i < M.cs.length)
def spLWire (K : PySem.W.Frag) : Sp := fun vs H Q _ => ∃ (r : Bool) (t l m : Addr) (ns : List Int) (T : Nat) (M : Net), vs = [.ref t, .ref m] ∧ Tap t l ns T H ∧ T + 3 ≤ 100000 ∧ ModAt K r H m M ∧ NetOk r M ∧
  ∀ H' p wk i, SameX [t] H H' → Ext H H' → Tap t l ns (T + 3) H' → WireAt K H' p wk i → WireIn r M wk i → Q (.ref p) H'
theorem sc_law_wire : FnScope ["_law_tap_here", "_law_model", "_law_low", "_law_bits", "_law_joins", "_law_rows"] ["_law_tap_here", "_law_model"] (defScope s_law_wire) := ⟨rfl, rfl, rfl, by decide +kernel, rfl, by decide +kernel, by decide +kernel⟩
theorem ok_law_wire (T : Txt w K mg) : FnR P w K mg base CX0 2 (gA "_law_wire" K) (spLWire K) := by
  obtain ⟨fd, F⟩ := T.f_law_wire
  refine mkR F sc_law_wire (fun _ _ _ _ _ _ us hl => match us, hl with | [_, _], _ => rfl) (fun vs H Q E h => ?_) (fun cdv A outer s H vs Q E hr h => ?_)
  · obtain ⟨r, t, l, m, ns, T0, M, rfl, _⟩ := h
    rfl
  · obtain ⟨r, t, l, m, ns, T0, M, rfl, htap, hT, hm0, hM, q⟩ := h
    obtain ⟨j, e, hm, hj, he⟩ := id hm0
    have nd := sc_law_wire.nd
    refine ⟨_, (pss_cons (ps_asg (pv 1) (pg_tup rfl (pgs_cons (pg_name (i := 2) nd rfl (Or.inl rfl)) (pgs_cons (pg_name (i := 3) nd rfl (Or.inl rfl)) (pgs_cons (pg_name (i := 4) nd rfl (Or.inl rfl)) (pgs_cons (pg_name (i := 5) nd rfl (Or.inl rfl)) pgs_nil))))))
      (pss_cons (ps_if (PW.pt (pw_or (pt_cmpR (op_eq0 hr.units) (pv 4) (pe_tup pa_nil) (nomark _)) (pw_or1 (pt_cmpR op_eq (rf_call (ok_law_next T) hr T.g_law_next T.k_law_next (pa_cons (pv 0) (pa_cons pe_int pa_nil))) pe_int (nomark _))))) (pss_one (ps_ret (pe_tup (pa_cons pe_str (pa_cons (pe_op op_add (pv 2) (rf_call (ok_law_next T) hr T.g_law_next T.k_law_next (pa_cons (pv 0) (pa_cons (pe_callB call_len (by rfl) T.b_len (by decide +kernel) (pa_cons (pv 5) pa_nil)) pa_nil)))) pa_nil))))) pss_nil)
      (pss_one (ps_ret (pe_tup (pa_cons (pe_ix ix_list (pe_lst (pa_cons pe_str (pa_cons pe_str pa_nil))) (rf_call (ok_law_next T) hr T.g_law_next T.k_law_next (pa_cons (pv 0) (pa_cons pe_int pa_nil))) (fun _ _ => rfl)) (pa_cons (rf_call (ok_law_next T) hr T.g_law_next T.k_law_next (pa_cons (pv 0) (pa_cons (pe_callB call_len (by rfl) T.b_len (by decide +kernel) (pa_cons (pv 4) pa_nil)) pa_nil))) pa_nil))))))), ?_⟩
    refine ⟨_, rfl, m, _, rfl, hm, rfl, _, _, rfl, _, _, rfl, _, _, rfl, _, _, rfl, rfl, ?_⟩
    have hn := hM.hi
    have hos := hM.outs
    have hlow := low_le r
    have hlo := hM.lo
    have hmany := hM.many
    obtain ⟨cas, hca, rc⟩ := id hj
    have hcl : cas.length = M.cs.length := rc.1
    refine ⟨_, rfl, by show 0 ≤ sizeLine; decide, fun p0 hp0 => ?_⟩
    have s1 := Same.new (o := .tup []) hp0
    have e1 : upd H p0 (.tup []) p0 = some (.tup []) := upd_same
    generalize upd H p0 (.tup []) = H1 at s1 e1 ⊢
    refine ⟨j, p0, _, rfl, rfl, .inr ⟨Same.sqt s1 hca, isT e1⟩, _, rfl, ?_⟩
    have htap1 := htap.mono s1
    have out : ∀ (H2 : Hp) (E0 : Ends), SameX [t] H1 H2 → Ext H1 H2 → Tap t l ns (T0 + 1) H2 → True := fun _ _ _ _ _ => trivial
    by_cases hc : M.cs = []
    · have hcas : cas = [] := List.eq_nil_of_length_eq_zero (by rw [hcl, hc]; rfl)
      subst hcas
      refine iteT ?_
      refine iteT ?_
      refine ⟨_, rfl, _, rfl, _, rfl, _, M.os.length, rfl, .inr ⟨_, Ext.sqt (Same.ext s1) he, by rw [nInts_len]⟩, t, l, ns, T0, M.os.length, rfl, htap1, by omega, by omega, by omega, fun H3 v s3 x3 tap3 hv => ?_⟩
      refine ⟨_, _, rfl, rfl, by show 2 ≤ sizeLine; decide, fun p hp => ?_⟩
      have s4 := Same.new (o := .tup [.str "output", .int ((low r : Int) + (v : Int))]) hp
      refine q _ p .out (low r + v) (((SameX.of s1).trans s3).trans (SameX.of s4)) (((Same.ext s1).trans x3).trans (Same.ext s4)) ((tap3.mono s4).more (by omega)) (isT (by rw [upd_same, Int.natCast_add]; rfl)) ⟨fun _ => ⟨by omega, by omega⟩, fun z => absurd rfl z⟩
    · rw [show (cas.map V.ref).isEmpty = false by
        cases cas with
        | nil => exact absurd (List.eq_nil_of_length_eq_zero hcl.symm) hc
        | cons _ _ => rfl]
      refine iteF ?_
      refine ⟨_, rfl, ?_⟩
      refine ⟨t, l, ns, T0, 3, rfl, htap1, by omega, by omega, by omega, fun H2 v0 s2 x2 tap2 hv0 => ?_⟩
      refine ⟨rfl, _, rfl, ?_⟩
      rw [dInt]
      have sa : SameX [t] H H2 := SameX.trans (SameX.of s1) s2
      have xa : Ext H H2 := Ext.trans (Same.ext s1) x2
      by_cases h0 : v0 = 0
      · rw [decide_eq_true (by omega)]
        refine iteT ?_
        refine ⟨_, rfl, _, rfl, _, rfl, _, M.os.length, rfl, .inr ⟨_, Ext.sqt xa he, by rw [nInts_len]⟩, t, l, ns, (T0 + 1), M.os.length, rfl, tap2, by omega, by omega, by omega, fun H3 v s3 x3 tap3 hv => ?_⟩
        refine ⟨_, _, rfl, rfl, by show 2 ≤ sizeLine; decide, fun p hp => ?_⟩
        have s4 := Same.new (o := .tup [.str "output", .int ((low r : Int) + (v : Int))]) hp
        refine q _ p .out (low r + v) ((sa.trans s3).trans (SameX.of s4)) ((xa.trans x3).trans (Same.ext s4)) ((tap3.mono s4).more (by omega)) (isT (by rw [upd_same, Int.natCast_add]; rfl)) ⟨fun _ => ⟨by omega, by omega⟩, fun z => absurd rfl z⟩
      · rw [decide_eq_false (by omega)]
        refine iteF ?_
        have hpos : 0 < M.cs.length := List.length_pos_iff.mpr hc
        refine ⟨by show 2 ≤ sizeLine; decide, fun p1 hp1 => ?_⟩
        have s3 := Same.new (o := .lst [.str "upper", .str "lower"]) hp1
        have e3 : upd H2 p1 (.lst [.str "upper", .str "lower"]) p1 = some (.lst [.str "upper", .str "lower"]) := upd_same
        generalize upd H2 p1 (.lst [.str "upper", .str "lower"]) = H3 at s3 e3 ⊢
        have hp1t : p1 ≠ t := fun z => by
          obtain ⟨_, _, g, _⟩ := tap2.at_
          rw [z, g] at hp1; cases hp1
        refine ⟨_, rfl, t, l, ns, T0 + 1, 2, rfl, tap2.mono s3, by omega, by omega, by omega, fun H4 v s4 x4 tap4 hv => ?_⟩
        have e4 := s4 _ _ (by simp; exact hp1t) e3
        have sb : SameX [t] H H4 := sa.trans ((SameX.of s3).trans s4)
        have xb : Ext H H4 := xa.trans ((Same.ext s3).trans x4)
        have fin : ∀ (wd : Str) (wk : Wk), wname wk = wd → wk ≠ .out → atI [V.str "upper", .str "lower"] (v : Int) = some (.str wd) → True := fun _ _ _ _ _ => trivial
        obtain ⟨wk, hw1, hw2⟩ : ∃ wk : Wk, wk ≠ .out ∧ atI [V.str "upper", .str "lower"] (v : Int) = some (.str (wname wk)) := by
          match v, hv with
          | 0, _ => exact ⟨.up, by decide, atI_nat (i := 0) rfl⟩
          | 1, _ => exact ⟨.lo, by decide, atI_nat (i := 1) rfl⟩
        refine ⟨p1, _, _, _, rfl, rfl, isL e4, hw2, ?_⟩
        refine ⟨_, rfl, _, rfl, _, M.cs.length, rfl, .inr ⟨_, Ext.sqt xb hca, by rw [List.length_map]; exact hcl.symm⟩, t, l, ns, T0 + 2, M.cs.length, rfl, tap4, by omega, by omega, by omega, fun H5 k s5 x5 tap5 hk => ?_⟩
        refine ⟨by show 2 ≤ sizeLine; decide, fun p hp => ?_⟩
        have s6 := Same.new (o := .tup [.str (wname wk), .int (k : Int)]) hp
        exact q _ p wk k ((sb.trans s5).trans (SameX.of s6)) ((xb.trans x5).trans (Same.ext s6)) ((tap5.mono s6).more (by omega)) (isT upd_same) ⟨fun z => absurd z hw1, fun _ => hk⟩
end
end Cp
/-! A rule: set(a list of ints). -/
namespace Cp
open PySem PySem.Spec PyProof.Rows L2
abbrev freshSet (w : World) : Obj := { cls := .type "set", dict := none, data := .set #[] 0 (.fresh 0 0 (!w.params.followText "set-order")) }
section
variable {P : Program} {w : World} {A : Around} {E : Value → Shared → Prop} {s : Shared}
theorem call_setL {l : Addr} {items : Array Value} (ns : List Int) {Q : Value → Shared → Prop} (hh : A.handled = none) (hl : s.heap.IsList l items) (hit : IntsAre items.toList ns) (hb : ns.length + 1 < scanBound)
    (h : ∀ (h' : Heap) (tk c : Nat), SetR w h' s.heap.objs.size (fun j => decide (j ∈ ns)) c → c ≤ ns.length → (∀ b o, s.heap.get? b = some o → h'.get? b = some o) → Q (.ref s.heap.objs.size) { s with heap := h', toks := tk }) :
    wpAny (model P w) A (call (.type "set") [.ref l]) Q E s := by
  have hisz : items.size = ns.length := by rw [← IntsAre.length hit, Array.length_toList]
  obtain ⟨c, tl, hmro⟩ := F.called_set.mro
  have hmade := F.called_set.made
  have hsub := F.called_set.sub
  refine wpAny_call (codeAny_of_tree ?_)
  show wpAny _ _ (callAny (.type "set") _) _ _ _
  refine wpAny_pure ⟨Code.quiet_builtin _ (by decide +kernel), codeAny_builtin F.entry_type_call ?_⟩
  rw [Around.under_plain (weight_type_call_type "set" [.ref l] []) rfl]
  have h1 := F.called_set.notType
  have h2 := F.called_set.canCreate
  have hct := F.typeCall_set_1 (.ref l)
  repeat (any_goals (first | assumption | wp_step))
  refine codeAny_mono (code_set_led1 (.ref l) (E := E) (Q₁ := fun obj s₁ => obj = .ref s.heap.objs.size ∧ s₁ = { s with heap := s.heap.push (freshSet w) }) ⟨rfl, rfl⟩) fun r s₁ hr => ?_
  cases r with
  | error e => exact hr
  | ok fl =>
    cases fl with
    | ret obj =>
      obtain ⟨rfl, rfl⟩ := hr
      have hS : (s.heap.push (freshSet w)).get? s.heap.objs.size = some (freshSet w) := Heap.get?_push_size _ rfl
      have hT : Shared.TypeIs { s with heap := s.heap.push (freshSet w) } (.ref s.heap.objs.size) "set" := ⟨_, hS, rfl⟩
      have hli := F.called_set.init.lookup
      have hbi := F.called_set.init.bind (.ref s.heap.objs.size)
      repeat (any_goals (first | assumption | wp_step))
      refine codeAny_mono (codeAny_call_builtin (R := wants (fun r s₂ => r = .none ∧ ∃ h' tk c, s₂ = { s with heap := h', toks := tk } ∧ SetR w h' s.heap.objs.size (fun j => decide (j ∈ ns)) c ∧ c ≤ ns.length ∧
          (∀ b o, s.heap.get? b = some o → h'.get? b = some o)) E) F.called_set.init.plain F.entry_set_init (check_set_init_1 hT ?_)) fun r₂ s₂ hr₂ => ?_
      · obtain ⟨ol, hol, hcl, nl, hdl⟩ := hl
        obtain ⟨ocls, odict, odata, oslots⟩ := ol
        simp only at hcl hdl
        subst hcl; subst hdl
        have hol' : (s.heap.push (freshSet w)).get? l = some { cls := .type "list", dict := odict, data := .seq items nl, slots := oslots } := Heap.get?_push_of_some _ hol
        have hsls := F.sub_list_set
        have hslf := F.sub_list_frozenset
        have hne : (Value.type "list" == Value.type "dict") = false := by decide
        have hl1 : (s.heap.push (freshSet w)).IsList l items := ⟨_, hol', rfl, nl, rfl⟩
        unfold Builtin.«set.__init__» noKeywords Builtin.Frozenset.updateFrom
        generalize hPI : pyIter = PI
        wp_walk
        subst hPI
        refine wpAny_pyIter_list hl1 ?_
        refine wpAny_bind (wpAny_runValue ?_)
        have hlS : l < s.heap.objs.size := Heap.lt_size hol
        have hh3 : A.in1.in1.in1.handled = none := by simp [hh]
        have hneI : l ≠ (s.heap.push (freshSet w)).objs.size := by
          rw [Heap.size_push]; exact Nat.ne_of_lt (Nat.lt_succ_of_lt hlS)
        have hSf : s.heap.objs.size ∉ [(s.heap.push (freshSet w)).objs.size, l] := by
          rw [Heap.size_push]; simp only [List.mem_cons, List.mem_singleton, List.not_mem_nil, or_false, not_or]
          exact ⟨Nat.ne_of_lt (Nat.lt_succ_self _), Nat.ne_of_gt hlS⟩
        have hval : ∀ (i : Nat) (v : Value), items[i]? = some v → ∃ k t, ns[i]? = some k ∧ v = .int k t := fun i v hv => by
          have hi : i < ns.length := by rw [← hisz]; exact (Array.getElem?_eq_some_iff.mp hv).1
          obtain ⟨t, e⟩ := PyProof.Rows.IntsAre.int_at hit i v (by rw [Array.getElem?_toList]; exact hv)
          exact ⟨ns[i], t, List.getElem?_eq_getElem hi, by rw [e, List.getD_eq_getElem?_getD, List.getElem?_eq_getElem hi] <;> rfl⟩
        refine set_update_ints ((Walks.list hh3 _ l hneI items).toS) s.heap.objs.size hSf ns hisz hb hval (items.size - 0) 0 _ (by omega) (Nat.zero_le _)
          ⟨⟨_, Heap.get?_push_size _ rfl, rfl, rfl⟩, (hl1.push _)⟩ ?hS0 ?hR
        case hS0 => exact ⟨0, Nat.le_refl 0, setR_new_at (Heap.get?_push_of_some _ hS)⟩
        case hR =>
          intro s' c' hm hc' hS'
          obtain ⟨h', g2, d', tk', os'⟩ := s'
          have eg : g2 = s.gens := hm.gens
          have ed : d' = s.drawn := hm.drawn
          have eo : os' = s.os := hm.os
          subst eg; subst ed; subst eo
          show wpAny _ _ _ _ _ _
          refine wpAny_pure ?_
          show wpAny _ _ (ret Value.none) _ _ _
          rw [hisz] at hc'
          refine wpAny_pure ⟨rfl, h', tk', c', rfl, hS', hc', fun b o e => ?_⟩
          have hb0 : b < s.heap.objs.size := Heap.lt_size e
          have hb2 : b ≠ (s.heap.push (freshSet w)).objs.size := by
            rw [Heap.size_push]; exact Nat.ne_of_lt (Nat.lt_succ_of_lt hb0)
          refine hm.heap b o ?_ (Heap.get?_push_of_some _ (Heap.get?_push_of_some _ e))
          intro z
          rcases List.mem_cons.mp z with z | z
          · exact Nat.ne_of_lt hb0 z
          · exact hb2 (List.mem_singleton.mp z)
      · cases r₂ with
        | error e => exact hr₂
        | ok fl₂ =>
          cases fl₂ with
          | ret r =>
            obtain ⟨rfl, h', tk, c', rfl, hS', hc', hk'⟩ := hr₂
            repeat (any_goals (first | assumption | wp_step))
            exact h _ _ _ hS' hc' hk'
          | _ => exact hr₂.elim
    | _ => exact hr.elim
end
/-- set(a list of ints): its members' number by a list without doubles -/
def rSetL (K : PySem.W.Frag) (w : World) : List V → Hp → VK → Prop := fun xs H Q => ∃ (l : Addr) (ns : List Int), xs = [.ref l] ∧ SqL K H l (ns.map V.int) ∧ ns.length ≤ 4000 ∧
  ∀ (p : Addr) (ds : List Int), ds.Nodup → (∀ k, k ∈ ds ↔ k ∈ ns) → H p = none → Q (.ref p) (upd H p (SetO w p (fun j => decide (j ∈ ns)) ds.length))
theorem cr_setL {X : Cx} (hc : X.calm = true) : CallR X (.type "set") (rSetL X.K X.w) := by
  intro pins s σ H xs us Q I r h
  obtain ⟨l, ns, rfl, hq, hl, q⟩ := h
  rw [Vals.ref1 r]
  obtain ⟨its, rv, pl, hz⟩ := I.list hq
  have hi : IntsAre its.toArray.toList ns := ints_of_vals rv
  refine call_setL ns (I.ok.hd hc) pl.isList hi (by unfold scanBound; omega) fun h' tk c R1 hcn k => ?_
  obtain ⟨o, es, ep, t, ho, hex, hdt, g, nd, hm2, hb, hf, hn, hr, hl2⟩ := id R1
  have hn0 : H s.heap.objs.size = none := I.hok.fresh (Nat.le_refl _)
  have ec : c = (es.toList.map keyOf).length := by rw [List.length_map, Array.length_toList, hn]
  subst ec
  refine ⟨.ref s.heap.objs.size, _, I.laid (t' := tk) k (Nat.le_refl _) (setO_new R1), rfl, q s.heap.objs.size (es.toList.map keyOf) nd (fun k => by rw [← hm2 k, decide_eq_true_eq]) hn0⟩
end Cp
/-! The law's wish. -/
namespace Cp
open PySem PySem.Spec PyProof.Rows L2
theorem sz10' {n : Nat} (h : n ≤ 100000) : n ≤ sizeLine := Nat.le_trans h (by decide)
/-- a block is cut behind its first statement -/
theorem tSeq_cut {t u : TS} {D : Ends} {σ : L2.St} {H : Hp} (P : L2.St → Hp → Prop) (h1 : ∀ NX : L2.St → Hp → Prop, (∀ σ' H', P σ' H' → NX σ' H') → t { D with nx := NX } σ H) (h2 : ∀ σ' H', P σ' H' → u D σ' H') : tSeq t u D σ H := h1 _ h2
/-- the tap has been drawn from -/
structure TB (t l : Addr) (ns : List Int) (T : Nat) (H H' : Hp) : Prop where
  x : SameX [t] H H'
  e : Ext H H'
  p : Tap t l ns T H'
section
variable {t l : Addr} {ns : List Int} {T T' : Nat} {H H' H2 : Hp}
theorem TB.refl (h : Tap t l ns T H) : TB t l ns T H H := ⟨SameX.refl _, Ext.refl _, h⟩
theorem TB.same (h : TB t l ns T H H') (s : Same H' H2) : TB t l ns T H H2 := ⟨h.x.trans (SameX.of s), h.e.trans (Same.ext s), h.p.mono s⟩
theorem TB.step (h : TB t l ns T H H') (s : SameX [t] H' H2) (e : Ext H' H2) (p : Tap t l ns T' H2) : TB t l ns T' H H2 := ⟨h.x.trans s, h.e.trans e, p⟩
theorem TB.more (h : TB t l ns T H H') (hT : T ≤ T') : TB t l ns T' H H' := ⟨h.x, h.e, h.p.more hT⟩
theorem TB.free {f : Addr} (h : TB t l ns T H H') (hf : H' f = none) : H f = none ∧ f ≠ t := by
  have ft : f ≠ t := fun z => by
    obtain ⟨_, _, g, _⟩ := h.p.at_
    rw [z, g] at hf
    cases hf
  refine ⟨?_, ft⟩
  cases hq : H f with
  | none => rfl
  | some o => rw [h.x f o (by simp; exact ft) hq] at hf; cases hf
/-- a list that is newer than the draws is written -/
theorem TB.lst {f : Addr} {xs : List V} {o : HO} (h : TB t l ns T H H') (hn : H f = none) (hf : H' f = some (.lst xs)) (hft : f ≠ t) (hfl : f ≠ l) : TB t l ns T H (upd H' f o) :=
  ⟨fun a u na hu => by rw [upd_ne (ne_of_none hu hn)]; exact h.x a u na hu, h.e.trans (Ext.lst hf), h.p.off (Ne.symm hft) (Ne.symm hfl)⟩
theorem TB.trans (h : TB t l ns T H H') (h2 : TB t l ns T' H' H2) : TB t l ns T' H H2 := ⟨h.x.trans h2.x, h.e.trans h2.e, h2.p⟩
end
section
variable {P : Program} {w : World} {K : PySem.W.Frag} {mg : Str → Option Value} {base : Heap}
def spLWish (K : PySem.W.Frag) : Sp := fun vs H Q _ => ∃ (r : Bool) (t l m : Addr) (ns : List Int) (T : Nat) (M : Net), vs = [.ref t, .ref m] ∧ Tap t l ns T H ∧ T + 10 ≤ 100000 ∧ ModAt K r H m M ∧ NetOk r M ∧
  ∀ H' e d, SameX [t] H H' → Ext H H' → Tap t l ns (T + 10) H' → (∀ ts H2, (∀ x ∈ ts, H x ≠ none) → SameX ts H' H2 → Ext H' H2 → DeedAt K H2 e d) → DeedFits M d → Q (.ref e) H'
theorem sc_law_wish : FnScope ["_law_tap_here", "_law_model", "_law_low", "_law_bits", "_law_joins", "_law_rows", "_law_many", "_law_wire_so", "_law_one", "_law_mate", "_law_way", "_law_fresh", "_law_limit", "_law_known", "_law_pairs", "_law_spot", "_law_pair", "_law_read", "_law_spare", "_law_k", "_law_deep"] ["_law_tap_here", "_law_model"] (defScope s_law_wish) := ⟨rfl, rfl, rfl, by decide +kernel, rfl, by decide +kernel, by decide +kernel⟩
theorem ok_law_wish (T : Txt w K mg) : FnR P w K mg base CX0 3 (gA "_law_wish" K) (spLWish K) := by
  obtain ⟨fd, F⟩ := T.f_law_wish
  refine mkR F sc_law_wish (fun _ _ _ _ _ _ us hl => match us, hl with | [_, _], _ => rfl) (fun vs H Q E h => ?_) (fun cdv A outer s H vs Q E hr h => ?_)
  · obtain ⟨r, t, l, m, ns, T0, M, rfl, _⟩ := h
    rfl
  · obtain ⟨r, t, l, m, ns, T0, M, rfl, htap, hT, hm0, hM, q⟩ := h
    obtain ⟨j, e, hm, hj, he⟩ := id hm0
    have nd := sc_law_wish.nd
    have hn := hM.hi
    have hos := hM.outs
    have hlow := low_le r
    have hlo := hM.lo
    have hmany := hM.many
    obtain ⟨cas, hca, rc⟩ := id hj
    have hcl : cas.length = M.cs.length := rc.1
    refine ⟨_, (pss_cons (ps_asg (pv 1) (pg_tup rfl (pgs_cons (pg_name (i := 2) nd rfl (Or.inl rfl)) (pgs_cons (pg_name (i := 3) nd rfl (Or.inr rfl)) (pgs_cons (pg_name (i := 4) nd rfl (Or.inl rfl)) (pgs_cons (pg_name (i := 5) nd rfl (Or.inr rfl)) pgs_nil))))))
      (pss_cons (ps_set (i := 6) nd rfl (Or.inl rfl) (pe_op op_add (pe_op op_sub (pe_op op_add (pv 3) pe_int) (pv 2)) (pe_callB call_len (by rfl) T.b_len (by decide +kernel) (pa_cons (pv 4) pa_nil))))
      (pss_cons (ps_set (i := 7) nd rfl (Or.inl rfl) (rf_call (ok_law_wire T) hr T.g_law_wire T.k_law_wire (pa_cons (pv 0) (pa_cons (pv 1) pa_nil))))
      (pss_cons (ps_par (i := 8) (j := 9) rfl nd rfl rfl (by decide) rfl rfl (pa_cons (pe_op op_add (pv 2) (rf_call (ok_law_next T) hr T.g_law_next T.k_law_next (pa_cons (pv 0) (pa_cons (pv 6) pa_nil)))) (pa_cons (pe_op op_add (pv 2) (rf_call (ok_law_next T) hr T.g_law_next T.k_law_next (pa_cons (pv 0) (pa_cons (pv 6) pa_nil)))) pa_nil)) (by rfl))
      (pss_cons (ps_set (i := 10) nd rfl (Or.inl rfl) (rf_call (ok_law_next T) hr T.g_law_next T.k_law_next (pa_cons (pv 0) (pa_cons pe_int pa_nil))))
      (pss_cons (ps_if (pt_cmpR op_lt (pv 10) pe_int (nomark _)) (pss_cons (ps_set (i := 12) nd rfl (Or.inl rfl) (pe_ifExp (pt_cmpR op_eq (pe_ix ix_tup (pv 7) pe_int (fun _ _ => rfl)) pe_str (nomark _)) (pv 6) (pe_op op_add (pe_op op_sub (pe_op op_add (pv 3) pe_int) (pv 2)) (pe_ix ix_tup (pv 7) pe_int (fun _ _ => rfl)))))
      (pss_one (ps_ret (pe_tup (pa_cons pe_str (pa_cons (pv 7) (pa_cons (pe_op op_add (pv 2) (rf_call (ok_law_next T) hr T.g_law_next T.k_law_next (pa_cons (pv 0) (pa_cons (pv 12) pa_nil)))) pa_nil))))))) pss_nil)
      (pss_cons (ps_if (pt_cmpR op_eq (pv 10) pe_int (nomark _)) (pss_one (ps_ret (pe_tup (pa_cons pe_str (pa_cons (pv 8) (pa_cons (pv 9) pa_nil)))))) pss_nil)
      (pss_cons (ps_if (pt_cmpR op_eq (pv 10) pe_int (nomark _)) (pss_cons (ps_set (i := 13) nd rfl (Or.inr rfl) (rf_call (ok_law_orders T) hr T.g_law_orders T.k_law_orders (pa_cons (pv 1) pa_nil)))
      (pss_cons (ps_set (i := 14) nd rfl (Or.inl rfl) (pe_lst pa_nil))
      (pss_cons (ps_for PassesOwn.never rfl (pi_range2 (by rfl) T.b_range (pa_cons (pe_op op_add (pv 3) pe_int) (pa_cons (pe_op op_add (pe_op op_add (pv 3) pe_int) (pe_callB call_len (by rfl) T.b_len (by decide +kernel) (pa_cons (pv 4) pa_nil))) pa_nil))) (pg_name (i := 15) nd rfl (Or.inr rfl))
        (pss_one (ps_expr (pe_bm PySem.F.plainAttrs_list PySem.F.slot_list_extend PySem.F.type_list_extend mt_extend (pv 14) (pa_cons (pe_lc (own := [("_law_deep", 20)]) (g := (gName 20)) (tt := (tTest (tOp (rEqD K) (tOp (rIxL K) (tVar 13) (tVar 20)) (tOp (rIxL K) (tVar 13) (tVar 15))))) (te := (tTup (tCons (tVar 20) (tCons (tVar 15) tNil)))) rfl nd (pi_range2 (by rfl) T.b_range (pa_cons (pv 2) (pa_cons (pv 15) pa_nil))) (blkOk_by (N := ["_law_tap_here", "_law_model", "_law_low", "_law_bits", "_law_joins", "_law_rows", "_law_many", "_law_wire_so", "_law_one", "_law_mate", "_law_way", "_law_fresh", "_law_limit", "_law_known", "_law_pairs", "_law_spot", "_law_pair", "_law_read", "_law_spare", "_law_k", "_law_deep"]) (sc := defScope s_law_wish) (by decide +kernel)) (fun _ _ _ _ _ => (pg_name (i := 20) nd rfl (Or.inl rfl))) (fun _ _ _ _ _ => (pts_one (pt_cmpR (op_eqD hr.units) (pe_ix ix_list (pv 13) (pv 20) (fun _ _ => rfl)) (pe_ix ix_list (pv 13) (pv 15) (fun _ _ => rfl)) (nomark _)))) (fun _ _ _ _ _ => (pe_tup (pa_cons (pv 20) (pa_cons (pv 15) pa_nil))))) pa_nil)))))
      (pss_cons (ps_set (i := 16) nd rfl (Or.inl rfl) (pe_ifExp (pt_cmpR (op_ne0 hr.units) (pv 14) (pe_lst pa_nil) (nomark _)) (pe_ix ix_list (pv 14) (rf_call (ok_law_next T) hr T.g_law_next T.k_law_next (pa_cons (pv 0) (pa_cons (pe_callB call_len (by rfl) T.b_len (by decide +kernel) (pa_cons (pv 14) pa_nil)) pa_nil))) (fun _ _ => rfl)) (pe_tup (pa_cons (pv 8) (pa_cons (pv 9) pa_nil)))))
      (pss_one (ps_ret (pe_tup (pa_cons pe_str (pa_cons (pe_ix ix_tup (pv 16) pe_int (fun _ _ => rfl)) (pa_cons (pe_ix ix_tup (pv 16) pe_int (fun _ _ => rfl)) pa_nil)))))))))) pss_nil)
      (pss_cons (ps_if (pt_cmpR op_eq (pv 10) pe_int (nomark _)) (pss_cons (ps_set (i := 17) nd rfl (Or.inr rfl) (pe_op op_cat (pe_lc (own := [("_law_pair", 16)]) (g := (gName 16)) (tt := tYes) (te := (tOp (rIxT K) (tVar 16) (tC (.int 0)))) rfl nd (pi_tup (pv 4)) (blkOk_by (N := ["_law_tap_here", "_law_model", "_law_low", "_law_bits", "_law_joins", "_law_rows", "_law_many", "_law_wire_so", "_law_one", "_law_mate", "_law_way", "_law_fresh", "_law_limit", "_law_known", "_law_pairs", "_law_spot", "_law_pair", "_law_read", "_law_spare", "_law_k", "_law_deep"]) (sc := defScope s_law_wish) (by decide +kernel)) (fun _ _ _ _ _ => (pg_name (i := 16) nd rfl (Or.inl rfl))) (fun _ _ _ _ _ => pts_nil) (fun _ _ _ _ _ => (pe_ix ix_tup (pv 16) pe_int (fun _ _ => rfl)))) (pe_lc (own := [("_law_pair", 16)]) (g := (gName 16)) (tt := tYes) (te := (tOp (rIxT K) (tVar 16) (tC (.int 1)))) rfl nd (pi_tup (pv 4)) (blkOk_by (N := ["_law_tap_here", "_law_model", "_law_low", "_law_bits", "_law_joins", "_law_rows", "_law_many", "_law_wire_so", "_law_one", "_law_mate", "_law_way", "_law_fresh", "_law_limit", "_law_known", "_law_pairs", "_law_spot", "_law_pair", "_law_read", "_law_spare", "_law_k", "_law_deep"]) (sc := defScope s_law_wish) (by decide +kernel)) (fun _ _ _ _ _ => (pg_name (i := 16) nd rfl (Or.inl rfl))) (fun _ _ _ _ _ => pts_nil) (fun _ _ _ _ _ => (pe_ix ix_tup (pv 16) pe_int (fun _ _ => rfl))))))
      (pss_cons (ps_setLc (i := 18) (own := [("_law_k", 19)]) (g := (gName 19)) (tt := (tAnd (tTest (tOp (rIn K true) (tOp (rI0 fun i j => .int (i + j)) (tOp (rI0 fun i j => .int (i + j)) (tVar 3) (tC (.int 1))) (tVar 19)) (tVar 17))) (tTest (tOp (rIn K true) (tOp (rI0 fun i j => .int (i + j)) (tOp (rI0 fun i j => .int (i + j)) (tVar 3) (tC (.int 1))) (tVar 19)) (tVar 5))))) (te := (tVar 19)) rfl nd rfl rfl (sw_true rfl rfl rfl (by decide +kernel)) (pi_range1 (by rfl) T.b_range (pa_cons (pe_callB call_len (by rfl) T.b_len (by decide +kernel) (pa_cons (pv 4) pa_nil)) pa_nil)) (blkOk_by (N := ["_law_tap_here", "_law_model", "_law_low", "_law_bits", "_law_joins", "_law_rows", "_law_many", "_law_wire_so", "_law_one", "_law_mate", "_law_way", "_law_fresh", "_law_limit", "_law_known", "_law_pairs", "_law_spot", "_law_pair", "_law_read", "_law_spare", "_law_k", "_law_deep"]) (sc := defScope s_law_wish) (by decide +kernel)) (fun _ _ _ _ _ => (pg_name (i := 19) nd rfl (Or.inl rfl))) (fun _ _ _ _ _ => (pts_one (PW.pt (pw_and (pt_cmpR op_notIn_seq (pe_op op_add (pe_op op_add (pv 3) pe_int) (pv 19)) (pv 17) (by rfl)) (pw_and1 (pt_cmpR op_notIn_seq (pe_op op_add (pe_op op_add (pv 3) pe_int) (pv 19)) (pv 5) (by rfl))))))) (fun _ _ _ _ _ => (pv 19)))
      (pss_one (ps_ret (pe_tup (pa_cons pe_str (pa_cons (pe_ifExp (pt_cmpR (op_ne0 hr.units) (pv 18) (pe_lst pa_nil) (nomark _)) (pe_ix ix_list (pv 18) (rf_call (ok_law_next T) hr T.g_law_next T.k_law_next (pa_cons (pv 0) (pa_cons (pe_callB call_len (by rfl) T.b_len (by decide +kernel) (pa_cons (pv 18) pa_nil)) pa_nil))) (fun _ _ => rfl)) (pe_op op_sub (pe_callB call_len (by rfl) T.b_len (by decide +kernel) (pa_cons (pv 4) pa_nil)) pe_int)) pa_nil))))))) pss_nil)
      (pss_cons (ps_set (i := 11) nd rfl (Or.inl rfl) (pe_callTy call_list_of (by rfl) T.b_list (by decide +kernel) (pa_cons (pv 5) pa_nil)))
      (pss_cons (ps_asg (pv 8) (pg_sub (pv 11) (rf_call (ok_law_next T) hr T.g_law_next T.k_law_next (pa_cons (pv 0) (pa_cons (pe_callB call_len (by rfl) T.b_len (by decide +kernel) (pa_cons (pv 5) pa_nil)) pa_nil))) set_list))
      (pss_one (ps_ret (pe_tup (pa_cons pe_str (pa_cons (pe_ix ix_list (pe_lst (pa_cons (pv 11) (pa_cons (pe_callTy call_tuple_of (by rfl) T.b_tuple (by decide +kernel) (pa_cons (pv 11) pa_nil)) pa_nil))) (rf_call (ok_law_next T) hr T.g_law_next T.k_law_next (pa_cons (pv 0) (pa_cons pe_int pa_nil))) (fun _ _ => rfl)) pa_nil)))))))))))))))), ?_⟩
    have tb0 := TB.refl htap
    refine tSeq_cut (fun σ H' => H' = H ∧ σ = [some (.ref t), some (.ref m), some (.int (low r : Nat)), some (.int (M.n : Nat)), some (.ref j), some (.ref e), none, none, none, none, none, none, none, none, none, none, none, none, none, none, none]) (fun NX fin => ?_) (fun σ H' ⟨eh, es⟩ => ?_)
    · exact ⟨_, rfl, m, _, rfl, hm, rfl, _, _, rfl, _, _, rfl, _, _, rfl, _, _, rfl, rfl, fin _ _ ⟨rfl, rfl⟩⟩
    rw [eh, es]
    clear eh es
    obtain ⟨many, hmn⟩ : ∃ many : Nat, M.n + 1 - low r + M.cs.length = many := ⟨_, rfl⟩
    have em : V.int ((M.n : Int) + 1 - (low r : Int) + (M.cs.length : Nat)) = V.int (many : Int) := congrArg V.int (by omega)
    refine tSeq_cut (fun σ H' => H' = H ∧ σ = [some (.ref t), some (.ref m), some (.int (low r : Nat)), some (.int (M.n : Nat)), some (.ref j), some (.ref e), some (.int (many : Nat)), none, none, none, none, none, none, none, none, none, none, none, none, none, none]) (fun NX fin => ?_) (fun σ H' ⟨eh, es⟩ => ?_)
    · refine ⟨_, rfl, _, _, rfl, rfl, _, rfl, _, _, rfl, rfl, _, rfl, _, M.cs.length, rfl, .inr ⟨_, hca, by rw [List.length_map]; exact hcl.symm⟩, _, _, rfl, rfl, ?_⟩
      exact fin _ _ ⟨rfl, by rw [← em]; rfl⟩
    rw [eh, es]
    clear eh es
    refine tSeq_cut (fun σ H1 => ∃ wp wk wi, σ = [some (.ref t), some (.ref m), some (.int (low r : Nat)), some (.int (M.n : Nat)), some (.ref j), some (.ref e), some (.int (many : Nat)), some (.ref wp), none, none, none, none, none, none, none, none, none, none, none, none, none] ∧ TB t l ns (T0 + 3) H H1 ∧ WireAt K H1 wp wk wi ∧ WireIn r M wk wi) (fun NX fin => ?_) (fun σ H1 ⟨wp, wk, wi, es, tb1, hw, hwin⟩ => ?_)
    · exact ⟨_, rfl, _, rfl, r, t, l, m, ns, T0, M, rfl, htap, by omega, hm0, hM, fun H1 wp wk wi s1 x1 tap1 hw hwin => fin _ _ ⟨wp, wk, wi, rfl, tb0.step s1 x1 tap1, hw, hwin⟩⟩
    rw [es]
    clear es
    refine tSeq_cut (fun σ H3 => ∃ a1 a2 : Nat, σ = [some (.ref t), some (.ref m), some (.int (low r : Nat)), some (.int (M.n : Nat)), some (.ref j), some (.ref e), some (.int (many : Nat)), some (.ref wp), some (.int (a1 : Nat)), some (.int (a2 : Nat)), none, none, none, none, none, none, none, none, none, none, none] ∧ TB t l ns (T0 + 5) H H3 ∧ WireAt K H3 wp wk wi) (fun NX fin => ?_) (fun σ H3 ⟨a1, a2, es, tb3, hw3⟩ => ?_)
    · refine ⟨_, rfl, _, rfl, _, rfl, t, l, ns, T0 + 3, many, rfl, tb1.p, by omega, by omega, by omega, fun H2 v1 s2 x2 tap2 hv1 => ?_⟩
      have tb2 := tb1.step s2 x2 tap2
      refine ⟨_, _, rfl, rfl, _, rfl, _, rfl, _, rfl, t, l, ns, T0 + 4, many, rfl, tap2, by omega, by omega, by omega, fun H3 v2 s3 x3 tap3 hv2 => ?_⟩
      have tb3 := tb2.step s3 x3 tap3
      refine ⟨_, _, rfl, rfl, ?_⟩
      have eu : V.int ((low r : Int) + (v1 : Int)) = V.int ((low r + v1 : Nat) : Int) := congrArg V.int (by omega)
      have ev : V.int ((low r : Int) + (v2 : Int)) = V.int ((low r + v2 : Nat) : Int) := congrArg V.int (by omega)
      refine ⟨V.int ((low r + v1 : Nat) : Int), V.int ((low r + v2 : Nat) : Int), (show [V.int ((low r : Int) + (v1 : Int)), V.int ((low r : Int) + (v2 : Int))] = [V.int ((low r + v1 : Nat) : Int), V.int ((low r + v2 : Nat) : Int)] by rw [eu, ev]), ?_⟩
      exact fin _ _ ⟨_, _, rfl, tb3, Ext.sqt (x2.trans x3) hw⟩
    rw [es]
    clear es
    refine tSeq_cut (fun σ H4 => ∃ way : Nat, σ = [some (.ref t), some (.ref m), some (.int (low r : Nat)), some (.int (M.n : Nat)), some (.ref j), some (.ref e), some (.int (many : Nat)), some (.ref wp), some (.int (a1 : Nat)), some (.int (a2 : Nat)), some (.int (way : Nat)), none, none, none, none, none, none, none, none, none, none] ∧ TB t l ns (T0 + 6) H H4 ∧ WireAt K H4 wp wk wi) (fun NX fin => ?_) (fun σ H4 ⟨way, es, tb4, hw4⟩ => ?_)
    · exact ⟨_, rfl, t, l, ns, T0 + 5, 7, rfl, tb3.p, by omega, by omega, by omega, fun H4 way s4 x4 tap4 hway => fin _ _ ⟨way, rfl, tb3.step s4 x4 tap4, Ext.sqt x4 hw3⟩⟩
    have tap4 := tb4.p
    rw [es]
    clear es
    obtain ⟨σ4, hσ⟩ : ∃ σ4 : L2.St, σ4 = [some (.ref t), some (.ref m), some (.int (low r : Nat)), some (.int (M.n : Nat)), some (.ref j), some (.ref e), some (.int (many : Nat)), some (.ref wp), some (.int (a1 : Nat)), some (.int (a2 : Nat)), some (.int (way : Nat)), none, none, none, none, none, none, none, none, none, none] := ⟨_, rfl⟩
    refine tSeq_cut (fun σ H' => H' = H4 ∧ σ = σ4 ∧ ¬ way < 2) (fun NX fin => ?_) (fun σ H' ⟨eh, es, h0⟩ => ?_)
    · refine ⟨_, rfl, _, _, rfl, rfl, _, rfl, ?_⟩
      by_cases h0 : way < 2
      · rw [decide_eq_true (by omega)]
        refine iteT ?_
        have wo := wname_inj wk .out
        rw [show wname .out = ("output" : Str) from rfl] at wo
        refine ⟨_, rfl, wp, _, 0, _, rfl, rfl, hw4, rfl, rfl, _, rfl, ?_⟩
        rw [wo]
        by_cases hwo : wk = .out
        · rw [decide_eq_true hwo]
          refine iteT ⟨_, rfl, ?_⟩
          refine ⟨_, rfl, _, rfl, _, rfl, _, rfl, t, l, ns, T0 + 6, many, rfl, tap4, by omega, by omega, by omega, fun H5 v s5 x5 tap5 hv => ?_⟩
          refine ⟨_, _, rfl, rfl, by show 3 ≤ sizeLine; decide, fun p hp => ?_⟩
          have s6 := Same.new (o := .tup [.str "rewire", .ref wp, .int ((low r : Int) + (v : Int))]) hp
          have tb6 := (tb4.step s5 x5 tap5).same s6
          exact q _ p (.rewire wk wi (low r + v)) tb6.x tb6.e (tb6.p.more (by omega)) (fun ts H2 _ _ x => ⟨wp, Ext.sqt x (isT (by rw [upd_same, Int.natCast_add])), Ext.sqt (x5.trans ((Same.ext s6).trans x)) hw4⟩) trivial
        · rw [decide_eq_false hwo]
          have hwi := hwin.2 hwo
          refine iteF ⟨_, rfl, _, _, rfl, rfl, _, rfl, _, _, rfl, rfl, _, rfl, wp, _, 1, _, rfl, rfl, hw4, rfl, _, _, rfl, rfl, ?_⟩
          obtain ⟨lim, hlim⟩ : ∃ lim : Nat, M.n + 1 - low r + wi = lim := ⟨_, rfl⟩
          have elim : V.int ((M.n : Int) + 1 - (low r : Int) + (wi : Nat)) = V.int (lim : Int) := congrArg V.int (by omega)
          show gName 12 (V.int ((M.n : Int) + 1 - (low r : Int) + (wi : Nat))) _ _ _
          rw [elim]
          refine ⟨_, rfl, _, rfl, _, rfl, _, rfl, t, l, ns, T0 + 6, lim, rfl, tap4, by omega, by omega, by omega, fun H5 v s5 x5 tap5 hv => ?_⟩
          refine ⟨_, _, rfl, rfl, by show 3 ≤ sizeLine; decide, fun p hp => ?_⟩
          have s6 := Same.new (o := .tup [.str "rewire", .ref wp, .int ((low r : Int) + (v : Int))]) hp
          have tb6 := (tb4.step s5 x5 tap5).same s6
          exact q _ p (.rewire wk wi (low r + v)) tb6.x tb6.e (tb6.p.more (by omega)) (fun ts H2 _ _ x => ⟨wp, Ext.sqt x (isT (by rw [upd_same, Int.natCast_add])), Ext.sqt (x5.trans ((Same.ext s6).trans x)) hw4⟩) trivial
      rw [decide_eq_false (by omega)]
      exact iteF (fin _ _ ⟨rfl, hσ.symm, by omega⟩)
    rw [eh, es, hσ]
    clear eh es
    refine tSeq_cut (fun σ H' => H' = H4 ∧ σ = σ4 ∧ way ≠ 2) (fun NX fin => ?_) (fun σ H' ⟨eh, es, h2⟩ => ?_)
    · refine ⟨_, rfl, rfl, _, rfl, ?_⟩
      rw [dInt]
      by_cases h2 : way = 2
      · rw [decide_eq_true (by omega)]
        refine iteT ⟨_, rfl, _, rfl, by show 3 ≤ sizeLine; decide, fun p hp => ?_⟩
        have s5 := Same.new (o := .tup [.str "add", .int (a1 : Int), .int (a2 : Int)]) hp
        have tb5 := tb4.same s5
        exact q _ p (.add a1 a2) tb5.x tb5.e (tb5.p.more (by omega)) (fun ts H2 _ _ x => Ext.sqt x (isT upd_same)) trivial
      rw [decide_eq_false (by omega)]
      exact iteF (fin _ _ ⟨rfl, hσ.symm, by omega⟩)
    rw [eh, es, hσ]
    clear eh es
    refine tSeq_cut (fun σ H' => H' = H4 ∧ σ = σ4 ∧ way ≠ 3) (fun NX fin => ?_) (fun σ H' ⟨eh, es, h3⟩ => ?_)
    · refine ⟨_, rfl, rfl, _, rfl, ?_⟩
      rw [dInt]
      by_cases h3 : way = 3
      · rw [decide_eq_true (by omega)]
        refine iteT ?_
        have hm4 := ModAt.ext tb4.e hm0
        refine ⟨_, rfl, r, m, M, rfl, hm4, hM, fun H5 kb kas s5 hkb rel5 => ?_⟩
        have hlen := ords_len M.n M.cs
        have tb5 := tb4.same s5
        refine ⟨by show 0 ≤ sizeLine; decide, fun D hD => ?_⟩
        obtain ⟨hDH, hDt⟩ := tb5.free hD
        have s6 := Same.new (o := .lst []) hD
        have e6 : upd H5 D (.lst []) D = some (.lst []) := upd_same
        generalize upd H5 D (.lst []) = H6 at s6 e6 ⊢
        refine ⟨_, rfl, _, _, rfl, rfl, _, rfl, _, _, rfl, rfl, _, rfl, _, M.cs.length, rfl, .inr ⟨_, Ext.sqt (tb5.same s6).e hca, by rw [List.length_map]; exact hcl.symm⟩, _, _, rfl, rfl, _, _, rfl, ⟨by omega, by omega, by omega, by omega⟩, ?_⟩
        refine for_it (w_range (k := M.cs.length) (by omega)) (fun i σ H7 => ∃ z xs, σ = [some (.ref t), some (.ref m), some (.int (low r : Nat)), some (.int (M.n : Nat)), some (.ref j), some (.ref e), some (.int (many : Nat)), some (.ref wp), some (.int (a1 : Nat)), some (.int (a2 : Nat)), some (.int (way : Nat)), none, none, some (.ref kb), some (.ref D), z, none, none, none, none, none] ∧
            Same H5 H7 ∧ H7 D = some (.lst xs) ∧ xs.length ≤ i * 175 ∧ ∀ x ∈ xs, ∃ (p : Addr) (u v : Nat), x = .ref p ∧ SqT K H7 p [.int (u : Nat), .int (v : Nat)])
          ⟨none, [], rfl, s6, e6, Nat.zero_le _, fun x hx => by cases hx⟩ (fun _ _ _ _ _ => trivial) (fun i x σ H7 H8 hi ⟨z, xs, es, s7, hd7, hl7, hp7⟩ yy => ?_) (fun σ H7 ⟨z, xs, es, s7, hd7, hl7, hp7⟩ => ?_)
        · obtain ⟨rfl, ey⟩ := yy
          subst es
          rw [List.length_range] at hi
          obtain ⟨sp, hsp⟩ : ∃ sp : Nat, M.n + 1 + i = sp := ⟨_, rfl⟩
          obtain rfl : x = V.int (sp : Int) := ey.trans (congrArg V.int (by omega))
          refine ⟨_, rfl, .inl ⟨rfl, _, isL hd7⟩, _, rfl, _, rfl, _, _, rfl, ⟨by omega, by omega, by omega, by omega⟩, fun L hL => ?_⟩
          let pr : Nat → Bool := fun k => decide ((ords M.n M.cs).getD (low r + k) [] = (ords M.n M.cs).getD sp [])
          refine lc_pure (items := List.range (sp - low r)) hL (w_range (k := sp - low r) (by omega)) pr (fun H v k => ∃ p, v = .ref p ∧ SqT K H p [.int ((low r + k : Nat) : Int), .int (sp : Nat)]) (fun H H' v x e ⟨p, h1, h2⟩ => ⟨p, h1, Ext.sqt e h2⟩) (by rw [List.length_range]; exact sz7 (by omega)) (fun _ _ => trivial) (fun i2 x ex H9 s9 Ky Kn hy hn2 v H' y => ?_) (fun acc H9 s9 hd9 rel9 => ?_)
          · obtain ⟨rfl, ey⟩ := y
            obtain ⟨rfl, hx⟩ := range_get ex
            obtain rfl : v = V.int ((low r + x : Nat) : Int) := ey.trans (congrArg V.int (by omega))
            have sr := s7.trans s9
            have gu : (ords M.n M.cs)[low r + x]? = some ((ords M.n M.cs).getD (low r + x) []) := by rw [List.getD_eq_getElem?_getD, List.getElem?_eq_getElem (by omega)]; rfl
            have gl : (ords M.n M.cs)[sp]? = some ((ords M.n M.cs).getD sp []) := by rw [List.getD_eq_getElem?_getD, List.getElem?_eq_getElem (by omega)]; rfl
            obtain ⟨au, hau, ou⟩ := rel5.get gu
            obtain ⟨al, hal, ol⟩ := rel5.get gl
            have hk := sr _ _ hkb
            refine ⟨rfl, _, rfl, _, rfl, kb, _, ((low r + x : Nat) : Int), _, rfl, rfl, isL hk, atI_nat (get_refs hau), ?_⟩
            refine ⟨_, rfl, _, rfl, kb, _, (sp : Int), _, rfl, rfl, isL hk, atI_nat (get_refs hal), ?_⟩
            refine ⟨_, _, dp_ints (Same.sqt sr ou), dp_ints (Same.sqt sr ol), shp_ints _, shp_ints _, _, rfl, ?_⟩
            rw [eq_ints]
            by_cases hq : (ords M.n M.cs).getD (low r + x) [] = (ords M.n M.cs).getD sp []
            · rw [decide_eq_true hq]
              exact iteT ⟨_, rfl, _, rfl, by show 2 ≤ sizeLine; decide, fun p hp => hy _ _ (Same.new hp) ⟨p, rfl, isT upd_same⟩ (decide_eq_true hq)⟩
            · rw [decide_eq_false hq]
              exact iteF (hn2 _ (Same.refl _) (decide_eq_false hq))
          · have lacc : acc.length ≤ sp - low r := by rw [rel9.1]; exact Nat.le_trans (List.length_filter_le _ _) (by rw [List.length_range]; exact Nat.le_refl _)
            have hd79 := s9 _ _ hd7
            refine ⟨D, L, xs, acc, rfl, rfl, hd79, hd9, ?_, ?_⟩
            · exact sz10' (by have : i * 175 ≤ 150 * 175 := Nat.mul_le_mul_right _ (by omega); omega)
            have hxe : Ext H9 (upd H9 D (.lst (xs ++ acc))) := Ext.lst hd79
            refine ⟨_, xs ++ acc, rfl, Same.mut (s7.trans s9) hD, upd_same, by rw [List.length_append, Nat.add_mul]; omega, fun x hx => ?_⟩
            rcases List.mem_append.mp hx with q1 | q1
            · obtain ⟨p, u, v, h1, h2⟩ := hp7 x q1
              exact ⟨p, u, v, h1, Ext.sqt hxe (Same.sqt s9 h2)⟩
            · obtain ⟨i3, hi3⟩ := List.getElem?_of_mem q1
              have hlt : i3 < ((List.range (sp - low r)).filter pr).length := by rw [← rel9.1]; exact (List.getElem?_eq_some_iff.mp hi3).1
              obtain ⟨p, h1, h2⟩ := rel9.2 i3 x _ hi3 (List.getElem?_eq_getElem hlt)
              exact ⟨p, _, _, h1, Ext.sqt hxe h2⟩
        · subst es
          rw [List.length_range] at hl7
          have tb7 := tb5.same s7
          refine ⟨_, rfl, by show 0 ≤ sizeLine; decide, fun p0 hp0 => ?_⟩
          have s8 := Same.new (o := .lst []) hp0
          have e8 : upd H7 p0 (.lst []) p0 = some (.lst []) := upd_same
          have hd8 := s8 _ _ hd7
          have tb8 := tb7.same s8
          have hp8 : ∀ x ∈ xs, ∃ (p : Addr) (u v : Nat), x = .ref p ∧ SqT K (upd H7 p0 (.lst [])) p [.int (u : Nat), .int (v : Nat)] := fun x hx => let ⟨p, u, v, h1, h2⟩ := hp7 x hx; ⟨p, u, v, h1, Same.sqt s8 h2⟩
          generalize upd H7 p0 (.lst []) = H8 at e8 hd8 tb8 hp8 ⊢
          refine ⟨D, p0, _, rfl, rfl, .inl ⟨isL hd8, isL e8⟩, _, rfl, ?_⟩
          by_cases hc : xs = []
          · rw [show (!xs.isEmpty) = false by rw [hc]; rfl]
            refine iteF ⟨_, rfl, _, rfl, by show 2 ≤ sizeLine; decide, fun p1 hp1 => ?_⟩
            have s9 := Same.new (o := .tup [.int (a1 : Int), .int (a2 : Int)]) hp1
            have e9 : upd H8 p1 (.tup [.int (a1 : Int), .int (a2 : Int)]) p1 = some (.tup [.int (a1 : Int), .int (a2 : Int)]) := upd_same
            have tb9 := tb8.same s9
            generalize upd H8 p1 (.tup [.int (a1 : Int), .int (a2 : Int)]) = H9 at e9 tb9 ⊢
            refine ⟨_, rfl, p1, _, 0, _, rfl, rfl, isT e9, rfl, _, rfl, p1, _, 1, _, rfl, rfl, isT e9, rfl, by show 3 ≤ sizeLine; decide, fun p hp => ?_⟩
            have s10 := Same.new (o := .tup [.str "merge", .int (a1 : Int), .int (a2 : Int)]) hp
            have tb10 := tb9.same s10
            exact q _ p (.merge a1 a2) tb10.x tb10.e (tb10.p.more (by omega)) (fun ts H2 _ _ x => Ext.sqt x (isT upd_same)) trivial
          · have hpos : 0 < xs.length := List.length_pos_iff.mpr hc
            rw [show (!xs.isEmpty) = true by cases xs with | nil => exact absurd rfl hc | cons _ _ => rfl]
            have hxl : xs.length ≤ 150 * 175 := Nat.le_trans hl7 (Nat.mul_le_mul_right _ hmany)
            refine iteT ?_
            refine ⟨_, rfl, _, rfl, _, rfl, _, xs.length, rfl, .inl ⟨_, isL hd8, rfl⟩, t, l, ns, T0 + 6, xs.length, rfl, tb8.p, hpos, by omega, by omega, fun H10 v s10 x10 tap10 hv => ?_⟩
            have hd10 := s10 _ _ (by simp; exact hDt) hd8
            obtain ⟨pp, u, v', h1, h2⟩ := hp8 xs[v] (List.getElem_mem hv)
            have h2 := Ext.sqt x10 h2
            refine ⟨D, _, _, _, rfl, rfl, isL hd10, atI_nat (List.getElem?_eq_getElem hv), ?_⟩
            rw [h1]
            refine ⟨_, rfl, pp, _, 0, _, rfl, rfl, h2, rfl, _, rfl, pp, _, 1, _, rfl, rfl, h2, rfl, by show 3 ≤ sizeLine; decide, fun p hp => ?_⟩
            have s11 := Same.new (o := .tup [.str "merge", .int (u : Nat), .int (v' : Nat)]) hp
            have tb11 := (tb8.step s10 x10 tap10).same s11
            exact q _ p (.merge u v') tb11.x tb11.e (tb11.p.more (by omega)) (fun ts H2 _ _ x => Ext.sqt x (isT upd_same)) trivial
      rw [decide_eq_false (by omega)]
      exact iteF (fin _ _ ⟨rfl, hσ.symm, by omega⟩)
    rw [eh, es, hσ]
    clear eh es
    refine tSeq_cut (fun σ H' => H' = H4 ∧ σ = σ4 ∧ way ≠ 4) (fun NX fin => ?_) (fun σ H' ⟨eh, es, h4⟩ => ?_)
    · refine ⟨_, rfl, rfl, _, rfl, ?_⟩
      rw [dInt]
      by_cases h4 : way = 4
      · rw [decide_eq_true (by omega)]
        refine iteT ?_
        have hca4 := Ext.sqt tb4.e hca
        have rc4 := rc.imp fun _ _ z => Ext.cell tb4.e z
        have wcs : Walk (Itt K j) M.cs.length (fun H => SqT K H j (cas.map V.ref)) (YAt (cas.map V.ref)) := by
          have w := walk_tup (K := K) (a := j) (xs := cas.map V.ref)
          rwa [List.length_map, hcl] at w
        refine ⟨_, rfl, j, rfl, ⟨_, hca4⟩, fun D1 hD1 => ?_⟩
        refine lc_map (items := M.cs) hD1 wcs (fun H v x => v = .int (x.1 : Nat)) (fun H H' v x e h => h) (sz7 (by omega)) (fun H5 s5 => Same.sqt s5 hca4) (fun i c ec H5 s5 Ky hy v H' y => ?_) (fun acc1 H5 s5 hd5 rel5 => ?_)
        · obtain ⟨rfl, hx⟩ := y
          obtain ⟨pc, hpc, rfl⟩ := refs_get hx
          have hcell : CellAt K H' pc c := CellAt.mono s5 (rc4.2 i pc c hpc ec)
          exact ⟨rfl, _, rfl, pc, _, 0, _, rfl, rfl, hcell, rfl, hy _ _ (Same.refl _) rfl⟩
        have e5 : acc1 = nInts (M.cs.map (·.1)) := by rw [rel_map rel5]; simp [nInts]
        subst e5
        have hca5 := Same.sqt s5 hca4
        refine ⟨_, rfl, j, rfl, ⟨_, hca5⟩, fun D2 hD2 => ?_⟩
        refine lc_map (items := M.cs) hD2 wcs (fun H v x => v = .int (x.2 : Nat)) (fun H H' v x e h => h) (sz7 (by omega)) (fun H6 s6 => Same.sqt s6 hca5) (fun i c ec H6 s6 Ky hy v H' y => ?_) (fun acc2 H6 s6 hd6 rel6 => ?_)
        · obtain ⟨rfl, hx⟩ := y
          obtain ⟨pc, hpc, rfl⟩ := refs_get hx
          have hcell : CellAt K H' pc c := CellAt.mono (s5.trans s6) (rc4.2 i pc c hpc ec)
          exact ⟨rfl, _, rfl, pc, _, 1, _, rfl, rfl, hcell, rfl, hy _ _ (Same.refl _) rfl⟩
        have e6 : acc2 = nInts (M.cs.map (·.2)) := by rw [rel_map rel6]; simp [nInts]
        subst e6
        refine ⟨D1, D2, _, _, rfl, rfl, s6 _ _ hd5, hd6, by simp [nInts]; exact sz10 (by omega), fun D3 hD3 => ?_⟩
        rw [show nInts (M.cs.map (·.1)) ++ nInts (M.cs.map (·.2)) = nInts (M.cs.map (·.1) ++ M.cs.map (·.2)) by simp [nInts]]
        obtain ⟨rd, hrd⟩ : ∃ rd, M.cs.map (·.1) ++ M.cs.map (·.2) = rd := ⟨_, rfl⟩
        rw [hrd]
        have s7 := Same.new (o := .lst (nInts rd)) hD3
        have e7 : upd H6 D3 (.lst (nInts rd)) D3 = some (.lst (nInts rd)) := upd_same
        generalize upd H6 D3 (.lst (nInts rd)) = H7 at s7 e7 ⊢
        have tb7 := tb4.same (s5.trans (s6.trans s7))
        refine ⟨_, rfl, _, M.cs.length, rfl, .inr ⟨_, Ext.sqt tb7.e hca, by rw [List.length_map]; exact hcl.symm⟩, _, rfl, by omega, by omega, fun D hD => ?_⟩
        let pr : Nat → Bool := fun k => decide (M.n + 1 + k ∉ rd ∧ M.n + 1 + k ∉ M.os)
        refine lc_pure (items := List.range M.cs.length) hD (w_range0 (by omega)) pr (fun _ v x => v = .int (x : Nat)) (fun _ _ _ _ _ h => h) (by rw [List.length_range]; exact sz7 (by omega)) (fun _ _ => trivial) (fun i x ex H8 s8 Ky Kn hy hn2 v H' y => ?_) (fun acc H8 s8 hd8 rel8 => ?_)
        · obtain ⟨rfl, rfl⟩ := y
          obtain ⟨rfl, hx⟩ := range_get ex
          have eg : V.int ((M.n : Int) + 1 + (x : Int)) = V.int ((M.n + 1 + x : Nat) : Int) := congrArg V.int (by omega)
          refine ⟨rfl, _, rfl, _, _, rfl, rfl, _, rfl, _, _, rfl, rfl, _, rfl, D3, _, rfl, .inl (isL (s8 _ _ e7)), rfl, flat_ints _, _, rfl, ?_⟩
          show if (!inV (V.int ((M.n : Int) + 1 + (x : Int))) (nInts rd)) = true then _ else _
          rw [eg, inV_ints]
          by_cases q1 : M.n + 1 + x ∈ rd
          · rw [decide_eq_true q1]
            refine iteF ?_
            exact iteF (hn2 _ (Same.refl _) (decide_eq_false fun z => z.1 q1))
          rw [decide_eq_false q1]
          refine iteT ?_
          refine ⟨_, rfl, _, _, rfl, rfl, _, rfl, _, _, rfl, rfl, _, rfl, e, _, rfl, .inr (Ext.sqt (tb7.e.trans (Same.ext s8)) he), rfl, flat_ints _, _, rfl, ?_⟩
          show if (!inV (V.int ((M.n : Int) + 1 + (x : Int))) (nInts M.os)) = true then _ else _
          rw [eg, inV_ints]
          by_cases q2 : M.n + 1 + x ∈ M.os
          · rw [decide_eq_true q2]
            exact iteF (hn2 _ (Same.refl _) (decide_eq_false fun z => z.2 q2))
          rw [decide_eq_false q2]
          exact iteT ⟨_, rfl, hy _ _ (Same.refl _) rfl (decide_eq_true ⟨q1, q2⟩)⟩
        have e8 : acc = nInts ((List.range M.cs.length).filter pr) := rel_map rel8
        obtain ⟨sp, hsp⟩ : ∃ sp, (List.range M.cs.length).filter pr = sp := ⟨_, rfl⟩
        rw [hsp] at e8
        have lsp : sp.length ≤ M.cs.length := by rw [← hsp]; exact Nat.le_trans (List.length_filter_le _ _) (by rw [List.length_range]; exact Nat.le_refl _)
        subst e8
        have tb8 := tb7.same s8
        refine ⟨_, rfl, by show 0 ≤ sizeLine; decide, fun p0 hp0 => ?_⟩
        have s9 := Same.new (o := .lst []) hp0
        have e9 : upd H8 p0 (.lst []) p0 = some (.lst []) := upd_same
        have hd9 := s9 _ _ hd8
        have tb9 := tb8.same s9
        generalize upd H8 p0 (.lst []) = H9 at e9 hd9 tb9 ⊢
        refine ⟨D, p0, _, rfl, rfl, .inl ⟨isL hd9, isL e9⟩, _, rfl, ?_⟩
        obtain ⟨hDH, hDt⟩ := (tb4.same (s5.trans (s6.trans s7))).free hD
        by_cases hc : sp = []
        · rw [show (!(nInts sp).isEmpty) = false by rw [hc]; rfl]
          refine iteF ?_
          refine ⟨_, rfl, _, M.cs.length, rfl, .inr ⟨_, Ext.sqt tb9.e hca, by rw [List.length_map]; exact hcl.symm⟩, _, _, rfl, rfl, by show 2 ≤ sizeLine; decide, fun p hp => ?_⟩
          have s10 := Same.new (o := .tup [.str "drop", .int ((M.cs.length : Nat) - 1)]) hp
          have tb10 := tb9.same s10
          exact q _ p (.drop ((M.cs.length : Nat) - 1)) tb10.x tb10.e (tb10.p.more (by omega)) (fun ts H2 _ _ x => Ext.sqt x (isT upd_same)) trivial
        · have hpos : 0 < sp.length := List.length_pos_iff.mpr hc
          rw [show (!(nInts sp).isEmpty) = true by cases sp with | nil => exact absurd rfl hc | cons _ _ => rfl]
          refine iteT ?_
          refine ⟨_, rfl, _, rfl, _, rfl, _, sp.length, rfl, .inl ⟨_, isL hd9, by rw [nInts_len]⟩, t, l, ns, T0 + 6, sp.length, rfl, tb9.p, hpos, by omega, by omega, fun H10 v s10 x10 tap10 hv => ?_⟩
          have hd10 := s10 _ _ (by simp; exact hDt) hd9
          refine ⟨D, _, _, _, rfl, rfl, isL hd10, atI_nat (get_nInts (List.getElem?_eq_getElem hv)), by show 2 ≤ sizeLine; decide, fun p hp => ?_⟩
          have s11 := Same.new (o := .tup [.str "drop", .int (sp[v] : Nat)]) hp
          have tb11 := (tb9.step s10 x10 tap10).same s11
          exact q _ p (.drop (sp[v] : Nat)) tb11.x tb11.e (tb11.p.more (by omega)) (fun ts H2 _ _ x => Ext.sqt x (isT upd_same)) trivial
      rw [decide_eq_false (by omega)]
      exact iteF (fin _ _ ⟨rfl, hσ.symm, by omega⟩)
    rw [eh, es, hσ]
    clear eh es
    refine ⟨_, rfl, e, nInts M.os, rfl, .inr (Ext.sqt tb4.e he), fun f hf => ?_⟩
    have s5 := Same.new (o := .lst (nInts M.os)) hf
    have e5 : upd H4 f (.lst (nInts M.os)) f = some (.lst (nInts M.os)) := upd_same
    have tb5 := tb4.same s5
    obtain ⟨hfH, hft⟩ := tb4.free hf
    generalize upd H4 f (.lst (nInts M.os)) = H5 at s5 e5 tb5 ⊢
    have hfl : f ≠ l := fun z => by rw [z, htap.ls] at hfH; cases hfH
    refine ⟨_, rfl, _, rfl, _, rfl, _, rfl, _, M.os.length, rfl, .inr ⟨_, Ext.sqt tb5.e he, by rw [nInts_len]⟩, t, l, ns, T0 + 6, M.os.length, rfl, tb5.p, by omega, by omega, by omega, fun H6 v s6 x6 tap6 hv => ?_⟩
    have tb6 := tb5.step s6 x6 tap6
    have e6 := s6 _ _ (by simp; exact hft) e5
    refine ⟨f, _, v, v, rfl, rfl, e6, ixN_nat (by rw [nInts_len]; exact hv), ?_⟩
    have tb7 := tb6.lst (o := .lst ((nInts M.os).set v (.int (a1 : Nat)))) hfH e6 hft hfl
    have e7 : upd H6 f (.lst ((nInts M.os).set v (.int (a1 : Nat)))) f = some (.lst (nInts (M.os.set v a1))) := by rw [upd_same, nInts_set]
    generalize upd H6 f (.lst ((nInts M.os).set v (.int (a1 : Nat)))) = H7 at tb7 e7 ⊢
    refine ⟨_, rfl, _, rfl, f, nInts (M.os.set v a1), rfl, .inl ⟨isL e7, fun p1 hp1 => ?_⟩⟩
    have s8 := Same.new (o := .tup (nInts (M.os.set v a1))) hp1
    have e8 : upd H7 p1 (.tup (nInts (M.os.set v a1))) p1 = some (.tup (nInts (M.os.set v a1))) := upd_same
    have tb8 := tb7.same s8
    generalize upd H7 p1 (.tup (nInts (M.os.set v a1))) = H8 at s8 e8 tb8 ⊢
    refine ⟨by show 2 ≤ sizeLine; decide, fun p2 hp2 => ?_⟩
    have s9 := Same.new (o := .lst [.ref f, .ref p1]) hp2
    have e9 : upd H8 p2 (.lst [.ref f, .ref p1]) p2 = some (.lst [.ref f, .ref p1]) := upd_same
    have tb9 := tb8.same s9
    obtain ⟨hp2H, hp2t⟩ := tb8.free hp2
    generalize upd H8 p2 (.lst [.ref f, .ref p1]) = H9 at s9 e9 tb9 ⊢
    refine ⟨_, rfl, t, l, ns, T0 + 7, 2, rfl, tb9.p.more (by omega), by omega, by omega, by omega, fun H10 c s10 x10 tap10 hc => ?_⟩
    have tb10 := tb9.step s10 x10 tap10
    have e10 := s10 _ _ (by simp; exact hp2t) e9
    have f10 := s10 _ _ (by simp; exact hft) (s9 _ _ (s8 _ _ e7))
    have t10 : SqT K H10 p1 (nInts (M.os.set v a1)) := Ext.sqt x10 (isT (s9 _ _ e8))
    have key : ∃ pz, atI [V.ref f, V.ref p1] (c : Int) = some (.ref pz) ∧ (pz = f ∨ pz = p1) := by
      match c, hc with
      | 0, _ => exact ⟨f, atI_nat (i := 0) rfl, .inl rfl⟩
      | 1, _ => exact ⟨p1, atI_nat (i := 1) rfl, .inr rfl⟩
    obtain ⟨pz, hz1, hz2⟩ := key
    refine ⟨p2, _, _, _, rfl, rfl, isL e10, hz1, by show 2 ≤ sizeLine; decide, fun p hp => ?_⟩
    have s11 := Same.new (o := .tup [.str "change", .ref pz]) hp
    have tb11 := tb10.same s11
    refine q _ p (.change (M.os.set v a1)) tb11.x tb11.e (tb11.p.more (by omega)) (fun ts H2 hts sx x => ⟨pz, Ext.sqt x (isT upd_same), ?_⟩) (by show (M.os.set v a1).length = _; simp)
    rcases hz2 with z | z
    · subst z
      exact .inl (isL (sx _ _ (fun z => hts _ z hfH) (s11 _ _ f10)))
    · subst z
      exact .inr (Ext.sqt ((Same.ext s11).trans x) t10)
end
end Cp
/-! The law's begun. -/
namespace Cp
open PySem PySem.Spec PyProof.Rows L2
/-- a list of cells that grows -/
def JL (K : PySem.W.Frag) (H : Hp) (D : Addr) (cs : List (Nat × Nat)) : Prop := ∃ as : List Addr, H D = some (.lst (as.map V.ref)) ∧ Rel2 (CellAt K H) as cs
section
variable {K : PySem.W.Frag} {H H' : Hp} {D R p t : Addr} {cs : List (Nat × Nat)} {c : Nat × Nat} {as : List Addr} {xs ys : List V}
theorem JL.same (s : Same H H') (h : JL K H D cs) : JL K H' D cs := let ⟨as, h1, h2⟩ := h; ⟨as, s _ _ h1, h2.imp fun _ _ q => CellAt.mono s q⟩
theorem JL.x (s : SameX [t] H H') (e : Ext H H') (n : D ≠ t) (h : JL K H D cs) : JL K H' D cs := let ⟨as, h1, h2⟩ := h; ⟨as, s _ _ (by simpa using n) h1, h2.imp fun _ _ q => Ext.cell e q⟩
theorem JL.push (h1 : H D = some (.lst (as.map V.ref))) (h2 : Rel2 (CellAt K H) as cs) (hc : CellAt K H p c) : JL K (upd H D (.lst (as.map V.ref ++ [.ref p]))) D (cs ++ [c]) :=
  ⟨as ++ [p], by rw [upd_same, List.map_append]; rfl, (h2.imp fun _ _ q => Ext.cell (Ext.lst h1) q).snoc (Ext.cell (Ext.lst h1) hc)⟩
theorem JL.off (h : JL K H D cs) (hR : H R = some (.lst xs)) (n : D ≠ R) : JL K (upd H R (.lst ys)) D cs := let ⟨as, h1, h2⟩ := h; ⟨as, by rw [upd_ne n]; exact h1, h2.imp fun _ _ q => Ext.cell (Ext.lst hR) q⟩
end
theorem CellsOk.push {r : Bool} {n u l : Nat} {cs : List (Nat × Nat)} (h : CellsOk r n cs) (h1 : low r ≤ u) (h2 : u ≤ n + cs.length) (h3 : low r ≤ l) (h4 : l ≤ n + cs.length) : CellsOk r n (cs ++ [(u, l)]) := fun k a b e => by
  by_cases hk : k < cs.length
  · rw [List.getElem?_append_left hk] at e
    exact h k a b e
  · have hl : k < (cs ++ [(u, l)]).length := (List.getElem?_eq_some_iff.mp e).1
    rw [List.length_append] at hl
    have hk2 : k = cs.length := by simp at hl; omega
    subst hk2
    rw [List.getElem?_append_right (Nat.le_refl _), Nat.sub_self] at e
    cases e
    exact ⟨h1, h2, h3, h4⟩
section
variable {P : Program} {w : World} {K : PySem.W.Frag} {mg : Str → Option Value} {base : Heap}
def spLBegun (K : PySem.W.Frag) : Sp := fun vs H Q _ => ∃ (t l : Addr) (ns : List Int) (T : Nat), vs = [.ref t] ∧ Tap t l ns T H ∧ T + 40 ≤ 100000 ∧
  ∀ H' r m M, SameX [t] H H' → Ext H H' → Tap t l ns (T + 40) H' → ModAt K r H' m M → NetOk r M → M.n ≤ 9 → Q (.ref m) H'
theorem sc_law_begun : FnScope ["_law_tap_here", "_law_low", "_law_bits", "_law_joins", "_law_position", "_law_rows", "_law_again", "_law_many", "_law_k"] ["_law_tap_here"] (defScope s_law_begun) := ⟨rfl, rfl, rfl, by decide +kernel, rfl, by decide +kernel, by decide +kernel⟩
theorem ok_law_begun (T : Txt w K mg) : FnR P w K mg base CX0 2 (gA "_law_begun" K) (spLBegun K) := by
  obtain ⟨fd, F⟩ := T.f_law_begun
  refine mkR F sc_law_begun (fun _ _ _ _ _ _ us hl => match us, hl with | [_], _ => rfl) (fun vs H Q E h => ?_) (fun cdv A outer s H vs Q E hr h => ?_)
  · obtain ⟨t, l, ns, T0, rfl, _⟩ := h
    rfl
  · obtain ⟨t, l, ns, T0, rfl, htap, hT, q⟩ := h
    have nd := sc_law_begun.nd
    refine ⟨_, (pss_cons (ps_set (i := 1) nd rfl (Or.inl rfl) (rf_call (ok_law_next T) hr T.g_law_next T.k_law_next (pa_cons (pv 0) (pa_cons pe_int pa_nil))))
      (pss_cons (ps_set (i := 2) nd rfl (Or.inr rfl) (pe_ix ix_list (pe_lst (pa_cons (pe_op op_add pe_int (pv 1)) (pa_cons pe_int (pa_cons pe_int (pa_cons (pe_op op_add pe_int (rf_call (ok_law_next T) hr T.g_law_next T.k_law_next (pa_cons (pv 0) (pa_cons pe_int pa_nil)))) pa_nil))))) (rf_call (ok_law_next T) hr T.g_law_next T.k_law_next (pa_cons (pv 0) (pa_cons pe_int pa_nil))) (fun _ _ => rfl)))
      (pss_cons (ps_set (i := 3) nd rfl (Or.inl rfl) (pe_lst pa_nil))
      (pss_cons (ps_for PassesOwn.never rfl (pi_range2 (by rfl) T.b_range (pa_cons (pe_op op_add (pv 1) pe_int) (pa_cons (pe_op op_add (pv 2) pe_int) pa_nil))) (pg_name (i := 4) nd rfl (Or.inl rfl))
        (pss_one (ps_expr (pe_bm PySem.F.plainAttrs_list PySem.F.slot_list_append PySem.F.type_list_append mt_append (pv 3) (pa_cons (pe_tup (pa_cons (pv 4) (pa_cons (pe_ifExp (pt_cmpR (op_ne0 hr.units) (pv 3) (pe_lst pa_nil) (nomark _)) (pe_op op_add (pv 2) (pe_callB call_len (by rfl) T.b_len (by decide +kernel) (pa_cons (pv 3) pa_nil))) (pv 1)) pa_nil))) pa_nil)))))
      (pss_cons (ps_set (i := 5) nd rfl (Or.inl rfl) (pe_op op_cat (pe_lst (pa_cons pe_int pa_nil)) (pe_lc (own := [("_law_k", 8)]) (g := (gName 8)) (tt := tYes) (te := (tOp (rI0 fun i j => .int (i + j)) (tOp (rI0 fun i j => .int (i + j)) (tVar 2) (tC (.int 1))) (tVar 8))) rfl nd (pi_range1 (by rfl) T.b_range (pa_cons (pv 2) pa_nil)) (blkOk_by (N := ["_law_tap_here", "_law_low", "_law_bits", "_law_joins", "_law_position", "_law_rows", "_law_again", "_law_many", "_law_k"]) (sc := defScope s_law_begun) (by decide +kernel)) (fun _ _ _ _ _ => (pg_name (i := 8) nd rfl (Or.inl rfl))) (fun _ _ _ _ _ => pts_nil) (fun _ _ _ _ _ => (pe_op op_add (pe_op op_add (pv 2) pe_int) (pv 8))))))
      (pss_cons (ps_if (pt_cmpR op_eq (pv 1) pe_int (nomark _)) (pss_cons (ps_set (i := 5) nd rfl (Or.inl rfl) (pe_op op_cat (pe_lc (own := [("_law_k", 8)]) (g := (gName 8)) (tt := tYes) (te := (tOp (rI0 fun i j => .int (i + j)) (tOp (rI CMul fun i j => .int (i * j)) (tC (.int 2)) (tVar 2)) (tVar 8))) rfl nd (pi_range1 (by rfl) T.b_range (pa_cons (pe_op op_sub (pv 2) pe_int) pa_nil)) (blkOk_by (N := ["_law_tap_here", "_law_low", "_law_bits", "_law_joins", "_law_position", "_law_rows", "_law_again", "_law_many", "_law_k"]) (sc := defScope s_law_begun) (by decide +kernel)) (fun _ _ _ _ _ => (pg_name (i := 8) nd rfl (Or.inl rfl))) (fun _ _ _ _ _ => pts_nil) (fun _ _ _ _ _ => (pe_op op_add (pe_op op_mul pe_int (pv 2)) (pv 8)))) (pe_lst (pa_cons (pe_op op_sub (pe_op op_mul pe_int (pv 2)) pe_int) pa_nil))))
      (pss_one (ps_for PassesOwn.never rfl (pi_range2 (by rfl) T.b_range (pa_cons pe_int (pa_cons (pv 2) pa_nil))) (pg_name (i := 4) nd rfl (Or.inl rfl))
        (pss_one (ps_expr (pe_bm PySem.F.plainAttrs_list PySem.F.slot_list_append PySem.F.type_list_append mt_append (pv 3) (pa_cons (pe_tup (pa_cons (pv 4) (pa_cons (pe_op op_add (pv 2) (pe_callB call_len (by rfl) T.b_len (by decide +kernel) (pa_cons (pv 3) pa_nil))) pa_nil))) pa_nil))))))) pss_nil)
      (pss_cons (ps_for PassesOwn.never rfl (pi_range1 (by rfl) T.b_range (pa_cons (rf_call (ok_law_next T) hr T.g_law_next T.k_law_next (pa_cons (pv 0) (pa_cons pe_int pa_nil))) pa_nil)) (pg_name (i := 6) nd rfl (Or.inl rfl))
        (pss_cons (ps_set (i := 7) nd rfl (Or.inl rfl) (pe_op op_add (pe_op op_sub (pe_op op_add (pv 2) pe_int) (pv 1)) (pe_callB call_len (by rfl) T.b_len (by decide +kernel) (pa_cons (pv 3) pa_nil))))
      (pss_one (ps_expr (pe_bm PySem.F.plainAttrs_list PySem.F.slot_list_append PySem.F.type_list_append mt_append (pv 3) (pa_cons (pe_tup (pa_cons (pe_op op_add (pv 1) (rf_call (ok_law_next T) hr T.g_law_next T.k_law_next (pa_cons (pv 0) (pa_cons (pv 7) pa_nil)))) (pa_cons (pe_op op_add (pv 1) (rf_call (ok_law_next T) hr T.g_law_next T.k_law_next (pa_cons (pv 0) (pa_cons (pv 7) pa_nil)))) pa_nil))) pa_nil))))))
      (pss_cons (ps_for PassesOwn.never rfl (pi_range1 (by rfl) T.b_range (pa_cons (rf_call (ok_law_next T) hr T.g_law_next T.k_law_next (pa_cons (pv 0) (pa_cons pe_int pa_nil))) pa_nil)) (pg_name (i := 6) nd rfl (Or.inl rfl))
        (pss_one (ps_asg (pe_op op_add (pv 1) (rf_call (ok_law_next T) hr T.g_law_next T.k_law_next (pa_cons (pv 0) (pa_cons (pe_op op_add (pe_op op_sub (pe_op op_add (pv 2) pe_int) (pv 1)) (pe_callB call_len (by rfl) T.b_len (by decide +kernel) (pa_cons (pv 3) pa_nil))) pa_nil)))) (pg_sub (pv 5) (rf_call (ok_law_next T) hr T.g_law_next T.k_law_next (pa_cons (pv 0) (pa_cons (pe_callB call_len (by rfl) T.b_len (by decide +kernel) (pa_cons (pv 5) pa_nil)) pa_nil))) set_list))))
      (pss_one (ps_ret (pe_tup (pa_cons (pv 1) (pa_cons (pv 2) (pa_cons (pe_callTy call_tuple_of (by rfl) T.b_tuple (by decide +kernel) (pa_cons (pv 3) pa_nil)) (pa_cons (pe_callTy call_tuple_of (by rfl) T.b_tuple (by decide +kernel) (pa_cons (pv 5) pa_nil)) pa_nil))))))))))))))), ?_⟩
    have tb0 := TB.refl htap
    -- low
    refine tSeq_cut (fun σ H1 => ∃ r, σ = [some (.ref t), some (.int (low r : Nat)), none, none, none, none, none, none, none] ∧ TB t l ns (T0 + 1) H H1) (fun NX fin => ?_) fun σ H1 ⟨r, es, tb1⟩ => ?_
    · refine ⟨_, rfl, t, l, ns, T0, 2, rfl, htap, by omega, by omega, by omega, fun H1 v s1 x1 tap1 hv => ?_⟩
      obtain ⟨r, er⟩ : ∃ r, low r = v := by
        match v, hv with
        | 0, _ => exact ⟨false, rfl⟩
        | 1, _ => exact ⟨true, rfl⟩
      subst er
      exact fin _ _ ⟨r, rfl, tb0.step s1 x1 tap1⟩
    subst es
    have hlow := low_le1 r
    -- bits
    refine tSeq_cut (fun σ H2 => ∃ n : Nat, σ = [some (.ref t), some (.int (low r : Nat)), some (.int (n : Nat)), none, none, none, none, none, none] ∧ TB t l ns (T0 + 3) H H2 ∧ 1 + low r ≤ n ∧ n ≤ 9) (fun NX fin => ?_) fun σ H2 ⟨n, es, tb2, hn1, hn2⟩ => ?_
    · refine ⟨_, rfl, _, _, rfl, rfl, _, rfl, t, l, ns, T0 + 1, 8, rfl, tb1.p, by omega, by omega, by omega, fun H2 v1 s2 x2 tap2 hv1 => ⟨_, _, rfl, rfl, by show 4 ≤ sizeLine; decide, fun p hp => ?_⟩⟩
      have tb2 := tb1.step s2 x2 tap2
      have hpt := (tb2.free hp).2
      have s3 := Same.new (o := .lst [.int (1 + (low r : Nat)), .int 2, .int 3, .int (2 + (v1 : Nat))]) hp
      have e3 : upd H2 p (.lst [.int (1 + (low r : Nat)), .int 2, .int 3, .int (2 + (v1 : Nat))]) p = some (.lst [.int (1 + (low r : Nat)), .int 2, .int 3, .int (2 + (v1 : Nat))]) := upd_same
      have tb3 := tb2.same s3
      generalize upd H2 p (.lst [.int (1 + (low r : Nat)), .int 2, .int 3, .int (2 + (v1 : Nat))]) = H3 at e3 tb3 ⊢
      refine ⟨_, rfl, t, l, ns, T0 + 2, 4, rfl, tb3.p, by omega, by omega, by omega, fun H4 v2 s4 x4 tap4 hv2 => ?_⟩
      have tb4 := tb3.step s4 x4 tap4
      have e4 := s4 _ _ (by simpa using hpt) e3
      obtain ⟨n, k1, k2, k3⟩ : ∃ n : Nat, atI [V.int (1 + (low r : Nat)), .int 2, .int 3, .int (2 + (v1 : Nat))] (v2 : Int) = some (.int (n : Int)) ∧ 1 + low r ≤ n ∧ n ≤ 9 := by
        match v2, hv2 with
        | 0, _ => exact ⟨1 + low r, (atI_nat (i := 0) rfl).trans (congrArg some (congrArg V.int (by omega))), by omega, by omega⟩
        | 1, _ => exact ⟨2, atI_nat (i := 1) rfl, by omega, by omega⟩
        | 2, _ => exact ⟨3, atI_nat (i := 2) rfl, by omega, by omega⟩
        | 3, _ => exact ⟨2 + v1, (atI_nat (i := 3) rfl).trans (congrArg some (congrArg V.int (by omega))), by omega, by omega⟩
      exact ⟨p, _, _, _, rfl, rfl, isL e4, k1, fin _ _ ⟨n, rfl, tb4, k2, k3⟩⟩
    subst es
    -- joins
    refine tSeq_cut (fun σ H3 => ∃ D, σ = [some (.ref t), some (.int (low r : Nat)), some (.int (n : Nat)), some (.ref D), none, none, none, none, none] ∧ TB t l ns (T0 + 3) H H3 ∧ H3 D = some (.lst []) ∧ H D = none ∧ D ≠ t ∧ D ≠ l) (fun NX fin => ?_) fun σ H3 ⟨D, es, tb3, hd3, hDH, hDt, hDl⟩ => ?_
    · refine ⟨by show 0 ≤ sizeLine; decide, fun D hD => ?_⟩
      obtain ⟨f1, f2⟩ := tb2.free hD
      exact fin _ _ ⟨D, rfl, tb2.same (Same.new hD), upd_same, f1, f2, fun z => by rw [z, htap.ls] at f1; cases f1⟩
    subst es
    refine tSeq_cut (fun σ H4 => ∃ z cs, σ = [some (.ref t), some (.int (low r : Nat)), some (.int (n : Nat)), some (.ref D), z, none, none, none, none] ∧ TB t l ns (T0 + 3) H H4 ∧ JL K H4 D cs ∧ CellsOk r n cs ∧ cs.length = n - low r) (fun NX fin => ?_) fun σ H4 ⟨z, cs, es, tb4, jl4, ck4, cl4⟩ => ?_
    · refine ⟨_, rfl, _, _, rfl, rfl, _, rfl, _, _, rfl, rfl, _, _, rfl, ⟨by omega, by omega, by omega, by omega⟩, ?_⟩
      refine for_it (w_range (k := n - low r) (by omega)) (fun i σ H5 => ∃ z cs, σ = [some (.ref t), some (.int (low r : Nat)), some (.int (n : Nat)), some (.ref D), z, none, none, none, none] ∧ TB t l ns (T0 + 3) H H5 ∧ JL K H5 D cs ∧ CellsOk r n cs ∧ cs.length = i)
        ⟨none, [], rfl, tb3, ⟨[], hd3, Rel2.nil⟩, fun k u l e => by simp at e, rfl⟩ (fun _ _ _ _ _ => trivial) (fun i x σ Hy H5 hi ⟨z, cs, es, tb5, jl5, ck5, cl5⟩ yy => ?_) (fun σ H5 ⟨z, cs, es, tb5, jl5, ck5, cl5⟩ => fin _ _ ⟨z, cs, es, tb5, jl5, ck5, by rw [cl5, List.length_range]⟩)
      obtain ⟨rfl, ey⟩ := yy
      subst es
      obtain ⟨as, hd5, rel5⟩ := jl5
      have las : as.length = i := by rw [rel5.1, cl5]
      rw [List.length_range] at hi
      obtain rfl : x = V.int ((low r + 1 + i : Nat) : Int) := ey.trans (congrArg V.int (by omega))
      refine ⟨_, rfl, .inl ⟨rfl, _, isL hd5⟩, _, rfl, ?_⟩
      refine ⟨_, rfl, by show 0 ≤ sizeLine; decide, fun p0 hp0 => ?_⟩
      have s6 := Same.new (o := .lst []) hp0
      have e6 : upd H5 p0 (.lst []) p0 = some (.lst []) := upd_same
      have tb6 := tb5.same s6
      have hd6 := s6 _ _ hd5
      have rel6 := rel5.imp fun _ _ q => CellAt.mono s6 q
      generalize upd H5 p0 (.lst []) = H6 at tb6 hd6 rel6 e6 ⊢
      refine ⟨D, p0, _, rfl, rfl, .inl ⟨isL hd6, isL e6⟩, _, rfl, ?_⟩
      have step : ∀ (p : Addr) (lo : Nat), H6 p = none → low r ≤ lo → lo ≤ n + i → ∃ z cs, [some (V.ref t), some (.int (low r : Nat)), some (.int (n : Nat)), some (.ref D), some (V.int ((low r + 1 + i : Nat) : Int)), none, none, none, none] = [some (.ref t), some (.int (low r : Nat)), some (.int (n : Nat)), some (.ref D), z, none, none, none, none] ∧
          TB t l ns (T0 + 3) H (upd (upd H6 p (.tup [.int (low r + 1 + i : Nat), .int (lo : Nat)])) D (.lst (as.map V.ref ++ [.ref p]))) ∧ JL K (upd (upd H6 p (.tup [.int (low r + 1 + i : Nat), .int (lo : Nat)])) D (.lst (as.map V.ref ++ [.ref p]))) D cs ∧ CellsOk r n cs ∧ cs.length = i + 1 := fun p lo hp h1 h2 => by
        have s7 := Same.new (o := .tup [.int (low r + 1 + i : Nat), .int (lo : Nat)]) hp
        refine ⟨_, cs ++ [(low r + 1 + i, lo)], rfl, (tb6.same s7).lst hDH (s7 _ _ hd6) hDt hDl, JL.push (s7 _ _ hd6) (rel6.imp fun _ _ q => CellAt.mono s7 q) (isT upd_same), ck5.push (by omega) (by omega) h1 (by omega), by simp [cl5]⟩
      have lsz : (as.map V.ref).length < sizeLine := by rw [List.length_map]; exact sz8 (by omega)
      by_cases hc : as = []
      · rw [show (!(as.map V.ref).isEmpty) = false by rw [hc]; rfl]
        exact iteF ⟨_, rfl, by show 2 ≤ sizeLine; decide, fun p hp => ⟨D, _, _, rfl, rfl, Same.new hp _ _ hd6, lsz, step p (low r) hp (Nat.le_refl _) (by omega)⟩⟩
      · rw [show (!(as.map V.ref).isEmpty) = true by cases as with | nil => exact absurd rfl hc | cons _ _ => rfl]
        refine iteT ?_
        have ev : V.int ((n : Int) + (i : Nat)) = V.int ((n + i : Nat) : Int) := congrArg V.int (by omega)
        refine ⟨_, rfl, _, rfl, _, i, rfl, .inl ⟨_, isL hd6, by rw [List.length_map]; exact las.symm⟩, _, _, rfl, rfl, by show 2 ≤ sizeLine; decide, fun p hp => ?_⟩
        dsimp only
        rw [ev]
        exact ⟨D, _, _, rfl, rfl, Same.new hp _ _ hd6, lsz, step p (n + i) hp (by omega) (by omega)⟩
    subst es
    -- rows
    refine tSeq_cut (fun σ H5 => ∃ R, σ = [some (.ref t), some (.int (low r : Nat)), some (.int (n : Nat)), some (.ref D), z, some (.ref R), none, none, none] ∧ TB t l ns (T0 + 3) H H5 ∧ JL K H5 D cs ∧ H5 R = some (.lst (nInts (0 :: (List.range n).map (n + 1 + ·)))) ∧ H R = none ∧ R ≠ t ∧ R ≠ D) (fun NX fin => ?_) fun σ H5 ⟨R, es, tb5, jl5, hR5, hRH, hRt, hRD⟩ => ?_
    · refine ⟨by show 1 ≤ sizeLine; decide, fun p1 hp1 => ?_⟩
      have s5 := Same.new (o := .lst [.int 0]) hp1
      have e5 : upd H4 p1 (.lst [.int 0]) p1 = some (.lst [.int 0]) := upd_same
      generalize upd H4 p1 (.lst [.int 0]) = H5 at s5 e5 ⊢
      refine ⟨_, rfl, _, rfl, by omega, by omega, fun D2 hD2 => ?_⟩
      refine lc_map (items := List.range n) hD2 (w_range0 (by omega)) (fun H v x => v = .int ((n + 1 + x : Nat) : Int)) (fun _ _ _ _ _ h => h) (by rw [List.length_range]; exact sz8 (by omega)) (fun _ _ => trivial) (fun i x e H6 s6 Ky hy v H' y => ?_) (fun acc H6 s6 hd rel => ?_)
      · obtain ⟨rfl, rfl⟩ := y
        obtain ⟨rfl, hx⟩ := range_get e
        exact ⟨rfl, _, rfl, _, _, rfl, rfl, _, rfl, _, _, rfl, rfl, hy _ _ (Same.refl _) (congrArg V.int (by omega))⟩
      have ea : acc = nInts ((List.range n).map (n + 1 + ·)) := by rw [rel_map rel]; simp [nInts]
      subst ea
      refine ⟨p1, D2, _, _, rfl, rfl, s6 _ _ e5, hd, by simp [nInts]; exact sz10 (by omega), fun R hR => ?_⟩
      have s56 := s5.trans s6
      have s7 := s56.trans (Same.new (o := .lst ([.int 0] ++ nInts ((List.range n).map (n + 1 + ·)))) hR)
      obtain ⟨f1, f2⟩ := (tb4.same s56).free hR
      obtain ⟨as, g1, g2⟩ := jl4.same s56
      exact fin _ _ ⟨R, rfl, tb4.same s7, jl4.same s7, upd_same, f1, f2, fun z => by rw [z, g1] at hR; cases hR⟩
    subst es
    refine tSeq_cut (fun σ H6 => ∃ z R cs rows, σ = [some (.ref t), some (.int (low r : Nat)), some (.int (n : Nat)), some (.ref D), z, some (.ref R), none, none, none] ∧ TB t l ns (T0 + 3) H H6 ∧ JL K H6 D cs ∧ CellsOk r n cs ∧ cs.length ≤ 20 ∧ H6 R = some (.lst (nInts rows)) ∧ H R = none ∧ R ≠ t ∧ R ≠ D ∧ rows.length = n + 1 - low r ∧ ∀ o ∈ rows, low r ≤ o ∧ o ≤ n + cs.length) (fun NX fin => ?_) fun σ H6 ⟨z, R, cs, rows, es, tb6, jl6, ck6, cl6, hR6, hRH, hRt, hRD, hrl, hrb⟩ => ?_
    · refine ⟨_, rfl, rfl, _, rfl, ?_⟩
      cases r with
      | false =>
        refine ite_f (by decide +kernel) (fin _ _ ⟨z, R, cs, _, rfl, tb5, jl5, ck4, by omega, hR5, hRH, hRt, hRD, by simp [low], fun o ho => ?_⟩)
        have l0 : low false = 0 := rfl
        rcases List.mem_cons.mp ho with e | e
        · subst e; exact ⟨Nat.le_refl _, Nat.zero_le _⟩
        · obtain ⟨k, hk, rfl⟩ := List.mem_map.mp e
          have := List.mem_range.mp hk
          exact ⟨Nat.zero_le _, by omega⟩
      | true =>
        have l1 : low true = 1 := rfl
        refine ite_t (by decide +kernel) ?_
        refine tSeq_cut (fun σ H6 => ∃ R2, σ = [some (.ref t), some (.int (low true : Nat)), some (.int (n : Nat)), some (.ref D), z, some (.ref R2), none, none, none] ∧ TB t l ns (T0 + 3) H H6 ∧ JL K H6 D cs ∧ H6 R2 = some (.lst (nInts ((List.range (n - 1)).map (2 * n + ·) ++ [2 * n - 1]))) ∧ H R2 = none ∧ R2 ≠ t ∧ R2 ≠ D) (fun NX2 fin2 => ?_) fun σ H6 ⟨R2, es, tb6, jl6, hR6, hRH6, hRt6, hRD6⟩ => ?_
        · refine ⟨_, rfl, _, _, rfl, rfl, _, rfl, by omega, by omega, fun D2 hD2 => ?_⟩
          refine lc_map (items := List.range (n - 1)) hD2 (w_range0 (by omega)) (fun H v x => v = .int ((2 * n + x : Nat) : Int)) (fun _ _ _ _ _ h => h) (by rw [List.length_range]; exact sz8 (by omega)) (fun _ _ => trivial) (fun i x e H6 s6 Ky hy v H' y => ?_) (fun acc H6 s6 hd rel => ?_)
          · obtain ⟨rfl, rfl⟩ := y
            obtain ⟨rfl, hx⟩ := range_get e
            exact ⟨rfl, _, rfl, _, _, rfl, rfl, .inl ⟨by omega, by omega⟩, _, rfl, _, _, rfl, rfl, hy _ _ (Same.refl _) (congrArg V.int (by omega))⟩
          have ea : acc = nInts ((List.range (n - 1)).map (2 * n + ·)) := by rw [rel_map rel]; simp [nInts]
          subst ea
          have ev : V.int (2 * (n : Int) - 1) = V.int ((2 * n - 1 : Nat) : Int) := congrArg V.int (by omega)
          refine ⟨_, rfl, _, _, rfl, rfl, .inl ⟨by omega, by omega⟩, _, _, rfl, rfl, by show 1 ≤ sizeLine; decide, fun p1 hp1 => ?_⟩
          dsimp only
          rw [ev]
          have s7 := Same.new (o := .lst [.int (2 * n - 1 : Nat)]) hp1
          have e7 : upd H6 p1 (.lst [.int (2 * n - 1 : Nat)]) p1 = some (.lst (nInts [2 * n - 1])) := upd_same
          have s67 := s6.trans s7
          have hd7 := s7 _ _ hd
          generalize upd H6 p1 (.lst [.int (2 * n - 1 : Nat)]) = H7 at s67 e7 hd7 ⊢
          refine ⟨D2, p1, _, _, rfl, rfl, hd7, e7, by simp [nInts]; exact sz10 (by omega), fun R2 hR2 => ?_⟩
          rw [← nInts_append]
          have s8 := s67.trans (Same.new (o := .lst (nInts ((List.range (n - 1)).map (2 * n + ·) ++ [2 * n - 1]))) hR2)
          obtain ⟨f1, f2⟩ := (tb5.same s67).free hR2
          obtain ⟨as, g1, g2⟩ := jl5.same s67
          exact fin2 _ _ ⟨R2, rfl, tb5.same s8, jl5.same s8, upd_same, f1, f2, fun z => by rw [z, g1] at hR2; cases hR2⟩
        subst es
        refine ⟨_, rfl, _, _, rfl, ⟨by omega, by omega, by omega, by omega⟩, ?_⟩
        refine for_it (w_range (k := n - 1) (by omega)) (fun i σ H7 => ∃ z cs, σ = [some (.ref t), some (.int (low true : Nat)), some (.int (n : Nat)), some (.ref D), z, some (.ref R2), none, none, none] ∧ TB t l ns (T0 + 3) H H7 ∧ JL K H7 D cs ∧ CellsOk true n cs ∧ cs.length = n - 1 + i ∧ H7 R2 = some (.lst (nInts ((List.range (n - 1)).map (2 * n + ·) ++ [2 * n - 1]))))
          ⟨z, cs, rfl, tb6, jl6, ck4, by omega, hR6⟩ (fun _ _ _ _ _ => trivial) (fun i x σ Hy H7 hi ⟨z, cs, es, tb7, jl7, ck7, cl7, hR7⟩ yy => ?_) (fun σ H7 ⟨z, cs, es, tb7, jl7, ck7, cl7, hR7⟩ => ?_)
        · obtain ⟨rfl, ey⟩ := yy
          subst es
          obtain ⟨as, hd7, rel7⟩ := jl7
          have las : as.length = cs.length := rel7.1
          rw [List.length_range] at hi
          obtain rfl : x = V.int ((1 + i : Nat) : Int) := ey.trans (congrArg V.int (by omega))
          have ev : V.int ((n : Int) + (cs.length : Nat)) = V.int ((n + cs.length : Nat) : Int) := congrArg V.int (by omega)
          refine ⟨_, rfl, .inl ⟨rfl, _, isL hd7⟩, _, rfl, _, rfl, _, rfl, _, cs.length, rfl, .inl ⟨_, isL hd7, by rw [List.length_map]; exact las.symm⟩, _, _, rfl, rfl, by show 2 ≤ sizeLine; decide, fun p hp => ?_⟩
          dsimp only
          rw [ev]
          have s8 := Same.new (o := .tup [.int (1 + i : Nat), .int (n + cs.length : Nat)]) hp
          have hd8 := s8 _ _ hd7
          refine ⟨D, _, _, rfl, rfl, hd8, by rw [List.length_map]; exact sz8 (by omega), ?_⟩
          refine ⟨_, cs ++ [(1 + i, n + cs.length)], rfl, (tb7.same s8).lst hDH hd8 hDt hDl, JL.push hd8 (rel7.imp fun _ _ q => CellAt.mono s8 q) (isT upd_same), ck7.push (by omega) (by omega) (by omega) (by omega), by rw [List.length_append]; simp; omega, ?_⟩
          rw [upd_ne hRD6]
          exact s8 _ _ hR7
        · subst es
          rw [List.length_range] at cl7
          refine fin _ _ ⟨z, R2, cs, _, rfl, tb7, jl7, ck7, by omega, hR7, hRH6, hRt6, hRD6, by simp; omega, fun o ho => ?_⟩
          rcases List.mem_append.mp ho with e | e
          · obtain ⟨k, hk, rfl⟩ := List.mem_map.mp e
            have := List.mem_range.mp hk
            exact ⟨by omega, by omega⟩
          · rw [List.mem_singleton.mp e]
            exact ⟨by omega, by omega⟩
    subst es
    have hRl : R ≠ l := fun z => by rw [z, htap.ls] at hRH; cases hRH
    -- more cells
    refine tSeq_cut (fun σ H7 => ∃ z y1 y2 cs, σ = [some (.ref t), some (.int (low r : Nat)), some (.int (n : Nat)), some (.ref D), z, some (.ref R), y1, y2, none] ∧ TB t l ns (T0 + 22) H H7 ∧ JL K H7 D cs ∧ CellsOk r n cs ∧ cs.length ≤ 28 ∧ H7 R = some (.lst (nInts rows)) ∧ ∀ o ∈ rows, low r ≤ o ∧ o ≤ n + cs.length) (fun NX fin => ?_) fun σ H7 ⟨z, y1, y2, cs, es, tb7, jl7, ck7, cl7, hR7, hrb⟩ => ?_
    · refine ⟨_, rfl, t, l, ns, T0 + 3, 9, rfl, tb6.p, by omega, by omega, by omega, fun H7 v7 s7 x7 tap7 hv7 => ⟨_, rfl, by omega, by omega, ?_⟩⟩
      have tb7 := tb6.step s7 x7 tap7
      refine for_it (w_range0 (k := v7) (by omega)) (fun i σ H8 => ∃ y1 y2 cs2, σ = [some (.ref t), some (.int (low r : Nat)), some (.int (n : Nat)), some (.ref D), z, some (.ref R), y1, y2, none] ∧ TB t l ns (T0 + 4 + 2 * i) H H8 ∧ JL K H8 D cs2 ∧ CellsOk r n cs2 ∧ cs2.length = cs.length + i ∧ H8 R = some (.lst (nInts rows)))
        ⟨none, none, cs, rfl, tb7, jl6.x s7 x7 hDt, ck6, rfl, s7 _ _ (by simpa using hRt) hR6⟩ (fun _ _ _ _ _ => trivial) (fun i x σ Hy H8 hi ⟨y1, y2, cs2, es, tb8, jl8, ck8, cl8, hR8⟩ yy => ?_) (fun σ H8 ⟨y1, y2, cs2, es, tb8, jl8, ck8, cl8, hR8⟩ => ?_)
      · obtain ⟨rfl, rfl⟩ := yy
        subst es
        rw [List.length_range] at hi
        obtain ⟨as, hd8, rel8⟩ := id jl8
        have las : as.length = cs2.length := rel8.1
        obtain ⟨many, hmn⟩ : ∃ many : Nat, n + 1 - low r + cs2.length = many := ⟨_, rfl⟩
        have em : V.int ((n : Int) + 1 - (low r : Nat) + (cs2.length : Nat)) = V.int (many : Int) := congrArg V.int (by omega)
        refine tSeq_cut (fun σ H9 => H9 = H8 ∧ σ = [some (.ref t), some (.int (low r : Nat)), some (.int (n : Nat)), some (.ref D), z, some (.ref R), some (.int (i : Nat)), some (.int (many : Nat)), none]) (fun NX2 fin2 => ?_) fun σ H9 ⟨eh, es⟩ => ?_
        · refine ⟨_, rfl, _, _, rfl, rfl, _, rfl, _, _, rfl, rfl, _, rfl, _, cs2.length, rfl, .inl ⟨_, isL hd8, by rw [List.length_map]; exact las.symm⟩, _, _, rfl, rfl, ?_⟩
          exact fin2 _ _ ⟨rfl, by rw [← em]; rfl⟩
        subst eh; subst es
        refine ⟨_, rfl, .inl ⟨rfl, _, isL hd8⟩, ?_⟩
        refine ⟨_, rfl, _, rfl, _, rfl, t, l, ns, T0 + 4 + 2 * i, many, rfl, tb8.p, by omega, by omega, by omega, fun H10 u s10 x10 tap10 hu => ⟨_, _, rfl, rfl, ?_⟩⟩
        refine ⟨_, rfl, _, rfl, _, rfl, t, l, ns, T0 + 4 + 2 * i + 1, many, rfl, tap10, by omega, by omega, by omega, fun H11 v s11 x11 tap11 hv => ⟨_, _, rfl, rfl, by show 2 ≤ sizeLine; decide, fun p hp => ?_⟩⟩
        have eu : V.int ((low r : Int) + (u : Int)) = V.int ((low r + u : Nat) : Int) := congrArg V.int (by omega)
        have ev : V.int ((low r : Int) + (v : Int)) = V.int ((low r + v : Nat) : Int) := congrArg V.int (by omega)
        dsimp only
        rw [eu, ev]
        have tb11 := (tb8.step s10 x10 tap10).step s11 x11 tap11
        have sx := s10.trans s11
        have xx := x10.trans x11
        have s12 := Same.new (o := .tup [.int (low r + u : Nat), .int (low r + v : Nat)]) hp
        have hd12 := s12 _ _ (sx _ _ (by simpa using hDt) hd8)
        refine ⟨D, _, _, rfl, rfl, hd12, by rw [List.length_map]; exact sz8 (by omega), ?_⟩
        refine ⟨_, _, cs2 ++ [(low r + u, low r + v)], rfl, (tb11.same s12).lst hDH hd12 hDt hDl, JL.push hd12 (rel8.imp fun _ _ q => CellAt.mono s12 (Ext.cell xx q)) (isT upd_same), ck8.push (by omega) (by omega) (by omega) (by omega), by rw [List.length_append]; simp; omega, ?_⟩
        rw [upd_ne hRD]
        exact s12 _ _ (sx _ _ (by simpa using hRt) hR8)
      · subst es
        rw [List.length_range] at cl8 tb8
        exact fin _ _ ⟨_, _, _, cs2, rfl, tb8.more (by omega), jl8, ck8, by omega, hR8, fun o ho => by have := hrb o ho; omega⟩
    subst es
    -- other outputs
    refine tSeq_cut (fun σ H8 => ∃ y1 rows, σ = [some (.ref t), some (.int (low r : Nat)), some (.int (n : Nat)), some (.ref D), z, some (.ref R), y1, y2, none] ∧ TB t l ns (T0 + 40) H H8 ∧ JL K H8 D cs ∧ H8 R = some (.lst (nInts rows)) ∧ rows.length = n + 1 - low r ∧ ∀ o ∈ rows, low r ≤ o ∧ o ≤ n + cs.length) (fun NX fin => ?_) fun σ H8 ⟨y1, rows, es, tb8, jl8, hR8, hrl, hrb⟩ => ?_
    · refine ⟨_, rfl, t, l, ns, T0 + 22, 4, rfl, tb7.p, by omega, by omega, by omega, fun H8 v8 s8 x8 tap8 hv8 => ⟨_, rfl, by omega, by omega, ?_⟩⟩
      have tb8 := tb7.step s8 x8 tap8
      refine for_it (w_range0 (k := v8) (by omega)) (fun i σ H8 => ∃ y1 rows, σ = [some (.ref t), some (.int (low r : Nat)), some (.int (n : Nat)), some (.ref D), z, some (.ref R), y1, y2, none] ∧ TB t l ns (T0 + 23 + 2 * i) H H8 ∧ JL K H8 D cs ∧ H8 R = some (.lst (nInts rows)) ∧ rows.length = n + 1 - low r ∧ ∀ o ∈ rows, low r ≤ o ∧ o ≤ n + cs.length)
        ⟨y1, rows, rfl, tb8, jl7.x s8 x8 hDt, s8 _ _ (by simpa using hRt) hR7, hrl, hrb⟩ (fun _ _ _ _ _ => trivial) (fun i x σ Hy H8 hi ⟨y1, rows, es, tb8, jl8, hR8, hrl, hrb⟩ yy => ?_) (fun σ H8 ⟨y1, rows, es, tb8, jl8, hR8, hrl, hrb⟩ => ?_)
      · obtain ⟨rfl, rfl⟩ := yy
        subst es
        rw [List.length_range] at hi
        obtain ⟨as, hd8, rel8⟩ := id jl8
        have las : as.length = cs.length := rel8.1
        obtain ⟨many, hmn⟩ : ∃ many : Nat, n + 1 - low r + cs.length = many := ⟨_, rfl⟩
        have em : V.int ((n : Int) + 1 - (low r : Nat) + (cs.length : Nat)) = V.int (many : Int) := congrArg V.int (by omega)
        refine ⟨_, rfl, _, rfl, _, rfl, _, _, rfl, rfl, _, rfl, _, _, rfl, rfl, _, rfl, _, cs.length, rfl, .inl ⟨_, isL hd8, by rw [List.length_map]; exact las.symm⟩, _, _, rfl, rfl, t, l, ns, T0 + 23 + 2 * i, many,
          (show [V.ref t, V.int ((n : Int) + 1 - (low r : Nat) + (cs.length : Nat))] = [V.ref t, V.int (many : Int)] by rw [em]), tb8.p, by omega, by omega, by omega, fun H10 u s10 x10 tap10 hu => ⟨_, _, rfl, rfl, ?_⟩⟩
        have tb10 := tb8.step s10 x10 tap10
        have hR10 := s10 _ _ (by simpa using hRt) hR8
        refine ⟨_, rfl, _, rfl, _, rfl, _, rows.length, rfl, .inl ⟨_, isL hR10, by rw [nInts_len]⟩, t, l, ns, T0 + 23 + 2 * i + 1, rows.length, rfl, tap10, by omega, by omega, by omega, fun H11 v s11 x11 tap11 hv => ?_⟩
        have tb11 := tb10.step s11 x11 tap11
        have hR11 := s11 _ _ (by simpa using hRt) hR10
        have eu : V.int ((low r : Int) + (u : Int)) = V.int ((low r + u : Nat) : Int) := congrArg V.int (by omega)
        dsimp only
        rw [eu]
        refine ⟨R, _, v, v, rfl, rfl, hR11, ixN_nat (by rw [nInts_len]; exact hv), ?_⟩
        refine ⟨_, rows.set v (low r + u), rfl, tb11.lst hRH hR11 hRt hRl, ((jl8.x s10 x10 hDt).x s11 x11 hDt).off hR11 (Ne.symm hRD), by rw [upd_same, nInts_set], by rw [List.length_set]; exact hrl, fun o ho => ?_⟩
        rcases List.mem_or_eq_of_mem_set ho with e | e
        · exact hrb o e
        · subst e; omega
      · subst es
        rw [List.length_range] at tb8
        exact fin _ _ ⟨_, rows, rfl, tb8.more (by omega), jl8, hR8, hrl, hrb⟩
    subst es
    obtain ⟨as, hd8, rel8⟩ := id jl8
    refine ⟨_, rfl, _, rfl, _, rfl, D, _, rfl, .inl ⟨isL hd8, fun j hj => ?_⟩⟩
    have s9 := Same.new (o := .tup (as.map V.ref)) hj
    have e9 : upd H8 j (.tup (as.map V.ref)) j = some (.tup (as.map V.ref)) := upd_same
    have tb9 := tb8.same s9
    have hR9 := s9 _ _ hR8
    have rel9 := rel8.imp fun _ _ q => CellAt.mono s9 q
    generalize upd H8 j (.tup (as.map V.ref)) = H9 at tb9 hR9 rel9 e9 ⊢
    refine ⟨_, rfl, R, _, rfl, .inl ⟨isL hR9, fun e he => ⟨by show 4 ≤ sizeLine; decide, fun m hm => ?_⟩⟩⟩
    have s10 := Same.new (o := .tup (nInts rows)) he
    have s11 := Same.new (o := .tup [.int (low r : Nat), .int (n : Nat), .ref j, .ref e]) hm
    have s1011 := s10.trans s11
    have tb11 := tb9.same s1011
    refine q _ r m ⟨n, cs, rows⟩ tb11.x tb11.e tb11.p ⟨j, e, isT upd_same, ⟨as, isT (s1011 _ _ e9), rel9.imp fun _ _ q => CellAt.mono s1011 q⟩, isT (s11 _ _ upd_same)⟩ ⟨hn1, by show n ≤ 24; omega, by show cs.length ≤ 150; omega, ck7, hrl, hrb⟩ hn2
end
end Cp
/-! The law's tests, drawn trials. -/
namespace Cp
open PySem PySem.Spec PyProof.Rows L2
/-! ### all trials -/
def tstep (zs : List (List Nat)) (a : List Nat) : List (List Nat) := zs.flatMap fun z => a.map fun c => z ++ [c]
def letters (r : Bool) (n : Nat) : List (List Nat) := List.replicate n [71, 75, 80] ++ [if r then [80] else [71, 75]]
def testsOf (r : Bool) (n : Nat) : List (List Nat) := (letters r n).foldl tstep [[]]
theorem mem_tests : ∀ (ls : List (List Nat)) (zs : List (List Nat)) (z : List Nat), z ∈ ls.foldl tstep zs ↔ ∃ z0 ∈ zs, ∃ y, z = z0 ++ y ∧ Rel2 (fun c a => c ∈ a) y ls
  | [], zs, z => ⟨fun h => ⟨z, h, [], by simp, Rel2.nil⟩, fun ⟨z0, h, y, e, r⟩ => by
      have : y = [] := List.eq_nil_of_length_eq_zero (by rw [r.1]; rfl)
      subst this
      rw [e, List.append_nil]; exact h⟩
  | a :: ls, zs, z => by
    show z ∈ ls.foldl tstep (tstep zs a) ↔ _
    rw [mem_tests ls]
    constructor
    · rintro ⟨z0, h, y, e, r⟩
      obtain ⟨z1, h1, h2⟩ := List.mem_flatMap.mp h
      obtain ⟨c, hc, rfl⟩ := List.mem_map.mp h2
      exact ⟨z1, h1, c :: y, by rw [e]; simp, Rel2.cons hc r⟩
    · rintro ⟨z0, h, y, e, r⟩
      cases y with
      | nil => have := r.1; simp at this
      | cons c y =>
        refine ⟨z0 ++ [c], List.mem_flatMap.mpr ⟨z0, h, List.mem_map.mpr ⟨c, r.2 0 c a rfl rfl, rfl⟩⟩, y, by rw [e]; simp, ⟨by have := r.1; simpa using this, fun i x b h1 h2 => r.2 (i + 1) x b (by simpa using h1) (by simpa using h2)⟩⟩
theorem letters_get {r : Bool} {n i : Nat} {a : List Nat} (h : (letters r n)[i]? = some a) : (i < n ∧ a = [71, 75, 80]) ∨ (i = n ∧ a = if r then [80] else [71, 75]) := by
  unfold letters at h
  by_cases hi : i < n
  · rw [List.getElem?_append_left (by simpa using hi), List.getElem?_replicate, if_pos hi] at h
    exact .inl ⟨hi, (Option.some.inj h).symm⟩
  · have hl := (List.getElem?_eq_some_iff.mp h).1
    simp at hl
    have : i = n := by omega
    subst this
    rw [List.getElem?_append_right (by simp)] at h
    simp at h
    exact .inr ⟨rfl, h.symm⟩
theorem letters_len (r : Bool) (n : Nat) : (letters r n).length = n + 1 := by simp [letters]
theorem mem_testsOf {r : Bool} {n : Nat} {z : List Nat} : z ∈ testsOf r n ↔ TrialOk r n z := by
  unfold testsOf
  rw [mem_tests]
  constructor
  · rintro ⟨z0, h, y, e, rel⟩
    have hz0 : z0 = [] := by simpa using h
    subst hz0
    have e : z = y := by simpa using e
    subst e
    have hl : z.length = n + 1 := by rw [rel.1, letters_len]
    refine ⟨hl, fun c hc => ?_, ?_⟩
    · obtain ⟨i, hi⟩ := List.getElem?_of_mem hc
      obtain ⟨a, ha, hca⟩ := rel.get' hi
      rcases letters_get ha with ⟨_, rfl⟩ | ⟨_, rfl⟩
      · simpa using hca
      · cases r <;> simp at hca <;> omega
    · have hn : z[n]? = some z[n] := List.getElem?_eq_getElem (by omega)
      obtain ⟨a, ha, hca⟩ := rel.get' hn
      rcases letters_get ha with ⟨h1, _⟩ | ⟨_, rfl⟩
      · omega
      · rw [hn]
        cases r with
        | true => simp at hca; simp [hca]
        | false => simp at hca; simp; omega
  · intro hz
    refine ⟨[], by simp, z, by simp, ⟨by rw [hz.len, letters_len], fun i c a h1 h2 => ?_⟩⟩
    have hc := hz.st c (List.mem_of_getElem? h1)
    rcases letters_get h2 with ⟨_, rfl⟩ | ⟨rfl, rfl⟩
    · simpa using hc
    · have h0 := hz.zero
      rw [h1] at h0
      cases r with
      | true => simp at h0; simp [h0]
      | false => simp at h0; simp; omega
theorem tstep_len {zs : List (List Nat)} {a : List Nat} (h : a.length ≤ 3) : (tstep zs a).length ≤ 3 * zs.length := by
  unfold tstep
  induction zs with
  | nil => simp
  | cons z zs ih => simp only [List.flatMap_cons, List.length_append, List.length_map, List.length_cons]; omega
theorem letters_three {r : Bool} {n : Nat} : ∀ a ∈ letters r n, a.length ≤ 3 := fun a ha => by
  obtain ⟨i, hi⟩ := List.getElem?_of_mem ha
  rcases letters_get hi with ⟨_, rfl⟩ | ⟨_, rfl⟩
  · simp
  · cases r <;> simp
theorem fold_len : ∀ (ls : List (List Nat)) (zs : List (List Nat)), (∀ a ∈ ls, a.length ≤ 3) → (ls.foldl tstep zs).length ≤ 3 ^ ls.length * zs.length
  | [], zs, _ => by simp
  | a :: ls, zs, h => by
    have ih := fold_len ls (tstep zs a) fun b hb => h b (by simp [hb])
    have hs := tstep_len (zs := zs) (h a (by simp))
    show (ls.foldl tstep (tstep zs a)).length ≤ _
    refine Nat.le_trans ih ?_
    rw [List.length_cons, Nat.pow_succ, Nat.mul_assoc]
    exact Nat.mul_le_mul_left _ hs
theorem tests_take_len {r : Bool} {n i : Nat} (hn : n ≤ 3) : (((letters r n).take i).foldl tstep [[]]).length ≤ 81 := by
  have h := fold_len ((letters r n).take i) [[]] fun a ha => letters_three a (List.mem_of_mem_take ha)
  refine Nat.le_trans h ?_
  have hl : ((letters r n).take i).length ≤ 4 := by rw [List.length_take, letters_len]; omega
  have := Nat.pow_le_pow_right (n := 3) (by decide) hl
  simpa using this
theorem tests_take_mem {r : Bool} {n i : Nat} (hn : n ≤ 3) {z : List Nat} (h : z ∈ ((letters r n).take i).foldl tstep [[]]) : z.length ≤ 4 := by
  obtain ⟨z0, h0, y, e, rel⟩ := (mem_tests _ _ _).mp h
  have hz0 : z0 = [] := by simpa using h0
  subst hz0
  have : z = y := by simpa using e
  rw [this, rel.1, List.length_take, letters_len]
  omega
abbrev zStr (zs : List (List Nat)) : List V := zs.map fun z => V.str (sOf z)
theorem sOf_snoc (z : List Nat) (c : Nat) : sOf z ++ (⟨#[c]⟩ : Str) = sOf (z ++ [c]) := by
  rw [← st_append]
theorem zStr_len (zs : List (List Nat)) : (zStr zs).length = zs.length := by simp
theorem zStr_get {zs : List (List Nat)} {i : Nat} {v : V} (h : (zStr zs)[i]? = some v) : ∃ z, zs[i]? = some z ∧ v = .str (sOf z) := by
  rw [List.getElem?_map] at h
  cases e : zs[i]? with
  | none => rw [e] at h; cases h
  | some n => rw [e] at h; exact ⟨n, rfl, (Option.some.inj h).symm⟩
theorem tstep_take {zs : List (List Nat)} {a z : List Nat} {j : Nat} (h : zs[j]? = some z) : tstep (zs.take (j + 1)) a = tstep (zs.take j) a ++ a.map fun c => z ++ [c] := by
  rw [take_succ_of h]; unfold tstep; rw [List.flatMap_append]; simp
section
variable {P : Program} {w : World} {K : PySem.W.Frag} {mg : Str → Option Value} {base : Heap}
def spLTests (K : PySem.W.Frag) : Sp := fun vs H Q _ => ∃ (r : Bool) (n : Nat), vs = [.int (low r : Nat), .int n] ∧ n ≤ 3 ∧ ∀ H' b, Same H H' → H' b = some (.lst (zStr (testsOf r n))) → Q (.ref b) H'
theorem rep_strs (n : Nat) : (List.replicate n [V.str ("GKP" : Str)]).flatten = zStr (List.replicate n [71, 75, 80]) := by
  induction n with
  | zero => rfl
  | succ n ih =>
    rw [List.replicate_succ, List.flatten_cons, ih, List.replicate_succ]
    show _ = V.str (sOf [71, 75, 80]) :: zStr (List.replicate n [71, 75, 80])
    rw [show ("GKP" : Str) = sOf [71, 75, 80] from by decide +kernel]
    rfl
theorem sc_law_tests : FnScope ["_law_low", "_law_bits", "_law_found", "_law_some", "_law_longer", "_law_test", "_law_letter"] ["_law_low", "_law_bits"] (defScope s_law_tests) := ⟨rfl, rfl, rfl, by decide +kernel, rfl, by decide +kernel, by decide +kernel⟩
theorem ok_law_tests (T : Txt w K mg) : FnR P w K mg base CX0 1 (gA "_law_tests" K) (spLTests K) := by
  obtain ⟨fd, F⟩ := T.f_law_tests
  refine mkR F sc_law_tests (fun _ _ _ _ _ _ us hl => match us, hl with | [_, _], _ => rfl) (fun vs H Q E h => ?_) (fun cdv A outer s H vs Q E hr h => ?_)
  · obtain ⟨r, n, rfl, _⟩ := h
    rfl
  · obtain ⟨r, n, rfl, hn, q⟩ := h
    have nd := sc_law_tests.nd
    have hlow := low_le1 r
    refine ⟨_, (pss_cons (ps_set (i := 2) nd rfl (Or.inl rfl) (pe_lst (pa_cons pe_str pa_nil)))
      (pss_cons (ps_for PassesOwn.never rfl (pi_list (pe_op op_cat (pe_op op_rep (pe_lst (pa_cons pe_str pa_nil)) (pv 1)) (pe_lst (pa_cons (pe_ix ix_list (pe_lst (pa_cons pe_str (pa_cons pe_str pa_nil))) (pv 0) (fun _ _ => rfl)) pa_nil)))) (pg_name (i := 3) nd rfl (Or.inl rfl))
        (pss_cons (ps_set (i := 4) nd rfl (Or.inl rfl) (pe_lst pa_nil))
      (pss_cons (ps_for PassesOwn.never rfl (pi_list (pv 2)) (pg_name (i := 5) nd rfl (Or.inr rfl))
        (pss_one (ps_expr (pe_bm PySem.F.plainAttrs_list PySem.F.slot_list_extend PySem.F.type_list_extend mt_extend (pv 4) (pa_cons (pe_lc (own := [("_law_letter", 6)]) (g := (gName 6)) (tt := tYes) (te := (tOp (fun x y H Q => ∃ i j, x = .str i ∧ y = .str j ∧ i.length + j.length ≤ sizeLine ∧ Q (.str (i ++ j)) H) (tVar 5) (tVar 6))) rfl nd (pi_str (pv 3)) (blkOk_by (N := ["_law_low", "_law_bits", "_law_found", "_law_some", "_law_longer", "_law_test", "_law_letter"]) (sc := defScope s_law_tests) (by decide +kernel)) (fun _ _ _ _ _ => (pg_name (i := 6) nd rfl (Or.inl rfl))) (fun _ _ _ _ _ => pts_nil) (fun _ _ _ _ _ => (pe_op op_add_str (pv 5) (pv 6)))) pa_nil)))))
      (pss_one (ps_set (i := 2) nd rfl (Or.inl rfl) (pv 4))))))
      (pss_one (ps_ret (pv 2))))), ?_⟩
    refine tSeq_cut (fun σ H1 => ∃ F, σ = [some (.int (low r : Nat)), some (.int (n : Nat)), some (.ref F), none, none, none, none] ∧ Same H H1 ∧ H1 F = some (.lst (zStr [[]]))) (fun NX fin => ?_) fun σ H1 ⟨F, es, s1, hF1⟩ => ?_
    · exact ⟨by show 1 ≤ sizeLine; decide, fun F hF => fin _ _ ⟨F, rfl, Same.new hF, by rw [upd_same]; rfl⟩⟩
    subst es
    refine tSeq_cut (fun σ H2 => ∃ F u v x, σ = [some (.int (low r : Nat)), some (.int (n : Nat)), some (.ref F), u, v, x, none] ∧ Same H H2 ∧ H2 F = some (.lst (zStr (testsOf r n)))) (fun NX fin => ?_) fun σ H2 ⟨F, u, v, x, es, s2, hF2⟩ => ?_
    · refine ⟨by show 1 ≤ sizeLine; decide, fun p1 hp1 => ?_⟩
      have s2 := Same.new (o := .lst [.str "GKP"]) hp1
      have e2 : upd H1 p1 (.lst [.str "GKP"]) p1 = some (.lst [.str "GKP"]) := upd_same
      generalize upd H1 p1 (.lst [.str "GKP"]) = H2 at s2 e2 ⊢
      refine ⟨_, rfl, p1, _, _, rfl, rfl, e2, by omega, by omega, by simp; exact sz10 (by omega), fun p2 hp2 => ?_⟩
      rw [show ((n : Int)).toNat = n from by omega, rep_strs]
      have s3 := s2.trans (Same.new (o := .lst (zStr (List.replicate n [71, 75, 80]))) hp2)
      have e3 : upd H2 p2 (.lst (zStr (List.replicate n [71, 75, 80]))) p2 = some (.lst (zStr (List.replicate n [71, 75, 80]))) := upd_same
      generalize upd H2 p2 (.lst (zStr (List.replicate n [71, 75, 80]))) = H3 at s3 e3 ⊢
      refine ⟨by show 2 ≤ sizeLine; decide, fun p3 hp3 => ?_⟩
      have s4 := Same.new (o := .lst [.str "GK", .str "P"]) hp3
      have e4 : upd H3 p3 (.lst [.str "GK", .str "P"]) p3 = some (.lst [.str "GK", .str "P"]) := upd_same
      generalize upd H3 p3 (.lst [.str "GK", .str "P"]) = H4 at s4 e4 ⊢
      have key : atI [V.str "GK", V.str "P"] (low r : Int) = some (.str (sOf (if r then [80] else [71, 75]))) := by
        cases r with
        | false => rw [show ("GK" : Str) = sOf [71, 75] from by decide +kernel]; exact atI_nat (i := 0) rfl
        | true => rw [show ("P" : Str) = sOf [80] from by decide +kernel]; exact atI_nat (i := 1) rfl
      refine ⟨_, rfl, p3, _, _, _, rfl, rfl, isL e4, key, by show 1 ≤ sizeLine; decide, fun p5 hp5 => ?_⟩
      have s5 := Same.new (o := .lst [.str (sOf (if r then [80] else [71, 75]))]) hp5
      have e5 : upd H4 p5 (.lst [.str (sOf (if r then [80] else [71, 75]))]) p5 = some (.lst [.str (sOf (if r then [80] else [71, 75]))]) := upd_same
      generalize upd H4 p5 (.lst [.str (sOf (if r then [80] else [71, 75]))]) = H5 at s5 e5 ⊢
      refine ⟨p2, p5, _, _, rfl, rfl, s5 _ _ (s4 _ _ e3), e5, by simp; exact sz10 (by omega), fun p6 hp6 => ?_⟩
      rw [show zStr (List.replicate n [71, 75, 80]) ++ [V.str (sOf (if r then [80] else [71, 75]))] = zStr (letters r n) from by simp [letters]]
      have s6 := ((s3.trans s4).trans s5).trans (Same.new (o := .lst (zStr (letters r n))) hp6)
      have e6 : upd H5 p6 (.lst (zStr (letters r n))) p6 = some (.lst (zStr (letters r n))) := upd_same
      generalize upd H5 p6 (.lst (zStr (letters r n))) = H6 at s6 e6 ⊢
      have hF6 := s6 _ _ hF1
      have s06 := s1.trans s6
      clear s2 s3 s4 s5 e2 e3 e4 e5
      refine ⟨p6, rfl, ⟨_, isL e6⟩, ?_⟩
      have ww : Walk (Itl K p6) (letters r n).length (fun H => SqL K H p6 (zStr (letters r n))) (YAt (zStr (letters r n))) := by
        have w := walk_list (K := K) (a := p6) (xs := zStr (letters r n))
        rwa [zStr_len] at w
      refine for_it ww (fun i σ H7 => ∃ F u v x, σ = [some (.int (low r : Nat)), some (.int (n : Nat)), some (.ref F), u, v, x, none] ∧ Same H6 H7 ∧ H7 F = some (.lst (zStr (((letters r n).take i).foldl tstep [[]]))))
        ⟨F, none, none, none, rfl, Same.refl _, hF6⟩ (fun i σ H7 _ ⟨F, u, v, x, es, s7, _⟩ => isL (s7 _ _ e6)) (fun i x σ Hy H7 hi ⟨F, u, v, x5, es, s7, hF7⟩ yy => ?_) (fun σ H7 ⟨F, u, v, x, es, s7, hF7⟩ => fin _ _ ⟨F, u, v, x, es, s06.trans s7, by rw [List.take_length] at hF7; exact hF7⟩)
      obtain ⟨rfl, hx⟩ := yy
      obtain ⟨a, ha, rfl⟩ := zStr_get hx
      subst es
      have hfl := tests_take_len (r := r) (n := n) (i := i) hn
      have hfm : ∀ z ∈ ((letters r n).take i).foldl tstep [[]], z.length ≤ 4 := fun z hz => tests_take_mem hn hz
      have e1 : ((letters r n).take (i + 1)).foldl tstep [[]] = tstep (((letters r n).take i).foldl tstep [[]]) a := by rw [take_succ_of ha, List.foldl_append]; rfl
      rw [e1]
      generalize ((letters r n).take i).foldl tstep [[]] = fs at hF7 hfl hfm ⊢
      have ha3 : a.length ≤ 3 := letters_three a (List.mem_of_getElem? ha)
      refine tSeq_cut (fun σ H8 => ∃ L, σ = [some (.int (low r : Nat)), some (.int (n : Nat)), some (.ref F), some (.str (sOf a)), some (.ref L), x5, none] ∧ Same H7 H8 ∧ H7 L = none ∧ H8 L = some (.lst (zStr (tstep (fs.take 0) a)))) (fun NX2 fin2 => ?_) fun σ H8 ⟨L, es, s8, hL7, hL8⟩ => ?_
      · exact ⟨by show 0 ≤ sizeLine; decide, fun L hL => fin2 _ _ ⟨L, rfl, Same.new hL, hL, upd_same⟩⟩
      subst es
      have hF8 := s8 _ _ hF7
      refine tSeq_cut (fun σ H9 => ∃ x, σ = [some (.int (low r : Nat)), some (.int (n : Nat)), some (.ref F), some (.str (sOf a)), some (.ref L), x, none] ∧ Same H7 H9 ∧ H9 L = some (.lst (zStr (tstep fs a)))) (fun NX2 fin2 => ?_) fun σ H9 ⟨x, es, s9, hL9⟩ => ?_
      · refine ⟨_, rfl, F, rfl, ⟨_, isL hF8⟩, ?_⟩
        have w2 : Walk (Itl K F) fs.length (fun H => SqL K H F (zStr fs)) (YAt (zStr fs)) := by
          have w := walk_list (K := K) (a := F) (xs := zStr fs)
          rwa [zStr_len] at w
        refine for_it w2 (fun j σ H9 => ∃ x, σ = [some (.int (low r : Nat)), some (.int (n : Nat)), some (.ref F), some (.str (sOf a)), some (.ref L), x, none] ∧ Same H7 H9 ∧ H9 L = some (.lst (zStr (tstep (fs.take j) a))))
          ⟨x5, rfl, s8, hL8⟩ (fun j σ H9 _ ⟨x, es, s9, _⟩ => isL (s9 _ _ hF7)) (fun j x σ Hy H9 hj ⟨x5, es, s9, hL9⟩ yy => ?_) (fun σ H9 ⟨x, es, s9, hL9⟩ => fin2 _ _ ⟨x, es, s9, by rw [List.take_length] at hL9; exact hL9⟩)
        obtain ⟨rfl, hx⟩ := yy
        obtain ⟨z, hz, rfl⟩ := zStr_get hx
        subst es
        have hz4 := hfm z (List.mem_of_getElem? hz)
        refine ⟨_, rfl, .inl ⟨rfl, _, isL hL9⟩, _, rfl, _, rfl, fun D hD => ?_⟩
        refine lc_map (items := a) hD (w_str a) (fun _ v c => v = V.str (sOf (z ++ [c]))) (fun _ _ _ _ _ h => h) (sz7 (by omega)) (fun _ _ => trivial) (fun k c ec H10 s10 Ky hy v H' y => ?_) (fun acc H10 s10 hd10 rel => ?_)
        · obtain ⟨rfl, c', hc', rfl⟩ := y
          have ecc : c' = c := by rw [List.getElem?_toArray] at hc'; rw [hc'] at ec; exact Option.some.inj ec
          subst ecc
          refine ⟨rfl, _, rfl, _, rfl, _, _, rfl, rfl, ?_, hy _ _ (Same.refl _) (congrArg V.str (sOf_snoc z c'))⟩
          rw [sOf_len]
          show z.length + 1 ≤ sizeLine
          exact sz10 (by omega)
        have ea : acc = zStr (a.map fun c => z ++ [c]) := by rw [rel_map rel]; simp
        subst ea
        refine ⟨L, D, _, _, rfl, rfl, s10 _ _ hL9, hd10, ?_, ?_⟩
        · have h3 := tstep_len (zs := fs.take j) ha3
          have h4 : (fs.take j).length ≤ fs.length := by rw [List.length_take]; omega
          rw [zStr_len, zStr_len, List.length_map]
          exact sz10 (by omega)
        refine ⟨_, rfl, Same.mut (s9.trans s10) hL7, ?_⟩
        rw [upd_same, tstep_take hz]
        simp
      subst es
      exact ⟨_, rfl, L, _, _, _, rfl, s7.trans s9, hL9⟩
    subst es
    exact ⟨_, rfl, q _ F s2 hF2⟩
end
end Cp
/-! The law's drawn trials. -/
namespace Cp
open PySem PySem.Spec PyProof.Rows L2
theorem yesT {te : TE} {σ σ' : L2.St} {H : Hp} {Ky : VK} {Kn : Hp → Prop} (h : te σ' H Ky) : tYes σ H fun b H3 => if b = true then te σ' H3 Ky else Kn H3 := by
  show if true = true then te σ' H Ky else Kn H
  rw [if_pos rfl]; exact h
theorem sum_st1 : ∀ l : List Nat, ((l.map st1).map (·.length)).sum = l.length := fun l => by
  induction l with
  | nil => rfl
  | cons a r ih => simp only [List.map_cons, List.sum_cons, ih, List.length_cons]; show 1 + _ = _; omega
/-- values that are states, by their codes -/
theorem gkpOf {acc : List V} : ∀ {n : Nat} {xs : List Nat}, xs.length = n → Rel2 (fun v (_ : Nat) => ∃ c : Nat, v = V.str (st1 c) ∧ (c = 71 ∨ c = 75 ∨ c = 80)) acc xs → ∃ cs : List Nat, acc = (cs.map st1).map V.str ∧ cs.length = n ∧ ∀ c ∈ cs, c = 71 ∨ c = 75 ∨ c = 80 := by
  induction acc with
  | nil => intro n xs hn h; exact ⟨[], rfl, by rw [← hn, ← h.1]; rfl, fun c hc => by cases hc⟩
  | cons v acc ih =>
    intro n xs hn h
    cases xs with
    | nil => have := h.1; simp at this
    | cons x xs =>
      obtain ⟨c, rfl, hc⟩ := h.2 0 v x rfl rfl
      obtain ⟨cs, e, hl, hcs⟩ := ih (n := xs.length) rfl ⟨by have := h.1; simpa using this, fun i a b e1 e2 => h.2 (i + 1) a b (by simpa using e1) (by simpa using e2)⟩
      refine ⟨c :: cs, by rw [e]; rfl, by rw [← hn]; simp [hl], fun d hd => ?_⟩
      rcases List.mem_cons.mp hd with q | q
      · rw [q]; exact hc
      · exact hcs d q
section
variable {P : Program} {w : World} {K : PySem.W.Frag} {mg : Str → Option Value} {base : Heap}
def spLDrawn (K : PySem.W.Frag) : Sp := fun vs H Q _ => ∃ (r : Bool) (t l : Addr) (ns : List Int) (T n : Nat), vs = [.ref t, .int (low r : Nat), .int n] ∧ Tap t l ns T H ∧ T + 80 ≤ 100000 ∧ n ≤ 9 ∧
  ∀ H' b zs, SameX [t] H H' → Ext H H' → Tap t l ns (T + 80) H' → H' b = some (.lst (zStr zs)) → zs.length = 8 → (∀ z ∈ zs, TrialOk r n z) → Q (.ref b) H'
theorem sc_law_drawn : FnScope ["_law_tap_here", "_law_low", "_law_bits", "_law_found", "_law_k", "_law_letters", "_law_position"] ["_law_tap_here", "_law_low", "_law_bits"] (defScope s_law_drawn) := ⟨rfl, rfl, rfl, by decide +kernel, rfl, by decide +kernel, by decide +kernel⟩
theorem ok_law_drawn (T : Txt w K mg) : FnR P w K mg base CX0 2 (gA "_law_drawn" K) (spLDrawn K) := by
  obtain ⟨fd, F⟩ := T.f_law_drawn
  refine mkR F sc_law_drawn (fun _ _ _ _ _ _ us hl => match us, hl with | [_, _, _], _ => rfl) (fun vs H Q E h => ?_) (fun cdv A outer s H vs Q E hr h => ?_)
  · obtain ⟨r, t, l, ns, T0, n, rfl, _⟩ := h
    rfl
  · obtain ⟨r, t, l, ns, T0, n, rfl, htap, hT, hn, q⟩ := h
    have nd := sc_law_drawn.nd
    have hlow := low_le1 r
    have tb0 := TB.refl htap
    refine ⟨_, (pss_cons (ps_set (i := 3) nd rfl (Or.inl rfl) (pe_lst pa_nil))
      (pss_cons (ps_for PassesOwn.never rfl (pi_range1 (by rfl) T.b_range (pa_cons pe_int pa_nil)) (pg_name (i := 4) nd rfl (Or.inl rfl))
        (pss_cons (ps_setLc (i := 5) (own := [("_law_position", 6)]) (g := (gName 6)) (tt := tYes) (te := (tOp rIxS (tC (.str "GKP")) (tCR (spNext K) (tCons (tVar 0) (tCons (tC (.int 3)) tNil))))) rfl nd rfl rfl (sw_true rfl rfl rfl (by decide +kernel)) (pi_range1 (by rfl) T.b_range (pa_cons (pv 2) pa_nil)) (blkOk_by (N := ["_law_tap_here", "_law_low", "_law_bits", "_law_found", "_law_k", "_law_letters", "_law_position"]) (sc := defScope s_law_drawn) (by decide +kernel)) (fun _ _ _ _ _ => (pg_name (i := 6) nd rfl (Or.inl rfl))) (fun _ _ _ _ _ => pts_nil) (fun _ _ _ _ _ => (pe_ix ix_str pe_str (rf_call (ok_law_next T) hr T.g_law_next T.k_law_next (pa_cons (pv 0) (pa_cons pe_int pa_nil))) (fun _ _ => rfl))))
      (pss_one (ps_expr (pe_bm PySem.F.plainAttrs_list PySem.F.slot_list_append PySem.F.type_list_append mt_append (pv 3) (pa_cons (pe_op op_add_str (pe_join pe_str (pv 5)) (pe_ix ix_list (pe_lst (pa_cons (pe_ix ix_str pe_str (rf_call (ok_law_next T) hr T.g_law_next T.k_law_next (pa_cons (pv 0) (pa_cons pe_int pa_nil))) (fun _ _ => rfl)) (pa_cons pe_str pa_nil))) (pv 1) (fun _ _ => rfl))) pa_nil))))))
      (pss_one (ps_ret (pv 3))))), ?_⟩
    refine tSeq_cut (fun σ H1 => ∃ D, σ = [some (.ref t), some (.int (low r : Nat)), some (.int (n : Nat)), some (.ref D), none, none, none] ∧ TB t l ns T0 H H1 ∧ H1 D = some (.lst []) ∧ H D = none ∧ D ≠ t ∧ D ≠ l) (fun NX fin => ?_) fun σ H1 ⟨D, es, tb1, hd1, hDH, hDt, hDl⟩ => ?_
    · refine ⟨by show 0 ≤ sizeLine; decide, fun D hD => ?_⟩
      obtain ⟨f1, f2⟩ := tb0.free hD
      exact fin _ _ ⟨D, rfl, tb0.same (Same.new hD), upd_same, f1, f2, fun z => by rw [z, htap.ls] at f1; cases f1⟩
    subst es
    refine tSeq_cut (fun σ H2 => ∃ u v zs, σ = [some (.ref t), some (.int (low r : Nat)), some (.int (n : Nat)), some (.ref D), u, v, none] ∧ TB t l ns (T0 + 80) H H2 ∧ H2 D = some (.lst (zStr zs)) ∧ zs.length = 8 ∧ ∀ z ∈ zs, TrialOk r n z) (fun NX fin => ?_) fun σ H2 ⟨u, v, zs, es, tb2, hd2, hl2, hz2⟩ => ?_
    · refine ⟨_, rfl, by decide, by decide, ?_⟩
      refine for_it (w_range0 (k := 8) rfl) (fun i σ H2 => ∃ u v zs, σ = [some (.ref t), some (.int (low r : Nat)), some (.int (n : Nat)), some (.ref D), u, v, none] ∧ TB t l ns (T0 + 10 * i) H H2 ∧ H2 D = some (.lst (zStr zs)) ∧ zs.length = i ∧ ∀ z ∈ zs, TrialOk r n z)
        ⟨none, none, [], rfl, tb1, hd1, rfl, fun z hz => by cases hz⟩ (fun _ _ _ _ _ => trivial) (fun i x σ Hy H2 hi ⟨u, v, zs, es, tb2, hd2, hl2, hz2⟩ yy => ?_) (fun σ H2 ⟨u, v, zs, es, tb2, hd2, hl2, hz2⟩ => fin _ _ ⟨u, v, zs, es, tb2, hd2, hl2, hz2⟩)
      obtain ⟨rfl, rfl⟩ := yy
      subst es
      rw [List.length_range] at hi
      refine tSeq_cut (fun σ H3 => ∃ (G : Addr) (cs : List Nat), σ = [some (.ref t), some (.int (low r : Nat)), some (.int (n : Nat)), some (.ref D), some (.int (i : Nat)), some (.ref G), none] ∧ TB t l ns (T0 + 10 * i + n) H H3 ∧ H3 D = some (.lst (zStr zs)) ∧ H3 G = some (.lst ((cs.map st1).map V.str)) ∧ G ≠ t ∧ cs.length = n ∧ ∀ c ∈ cs, c = 71 ∨ c = 75 ∨ c = 80) (fun NX2 fin2 => ?_) fun σ H3 ⟨G, cs, es, tb3, hd3, hg3, hGt, hcl, hcs⟩ => ?_
      · refine ⟨_, rfl, _, rfl, by omega, by omega, fun G hG => ?_⟩
        have hGt := (tb2.free hG).2
        have hGl : G ≠ l := fun z => by rw [z, tb2.p.ls] at hG; cases hG
        have hT2 : H2 t ≠ none := fun z => by
          obtain ⟨_, _, g, _⟩ := tb2.p.at_
          rw [z] at g; cases g
        refine lc_rel (items := List.range n) hG (w_range0 (by omega)) (fun _ => true) (fun _ v (_ : Nat) => ∃ c : Nat, v = V.str (st1 c) ∧ (c = 71 ∨ c = 75 ∨ c = 80)) [t] (fun k H => Tap t l ns (T0 + 10 * i + k) H ∧ Ext H2 H) (fun _ _ _ _ _ h => h) ⟨tb2.p, Ext.refl _⟩
          (fun k H D xs o hD hh h => ⟨h.1.off (fun z => hT2 (z ▸ hD)) (fun z => by rw [← z, tb2.p.ls] at hD; cases hD), h.2.trans (hh.elim (fun z => Ext.lst z) fun z => Ext.new z)⟩) (fun x hx => by rw [List.mem_singleton.mp hx]; exact hT2) (by rw [List.length_range]; exact sz7 (by omega)) (fun _ _ _ _ => trivial)
          (fun k x ex H3 s3 ⟨tap3, x3⟩ Ky Kn hy hn2 v H' y => ?_) (fun acc H3 s3 hd3 rel ⟨tap3, x3⟩ => ?_)
        · obtain ⟨rfl, rfl⟩ := y
          obtain ⟨rfl, hx⟩ := range_get ex
          refine ⟨rfl, yesT ?_⟩
          refine ⟨_, rfl, t, l, ns, T0 + 10 * i + x, 3, rfl, tap3, by omega, by omega, by omega, fun H4 v s4 x4 tap4 hv => ?_⟩
          obtain ⟨c, hc1, hc2⟩ : ∃ c : Nat, atI ((("GKP" : Str)).cps.toList) (v : Int) = some c ∧ (c = 71 ∨ c = 75 ∨ c = 80) := by
            rw [show (("GKP" : Str)).cps.toList = [71, 75, 80] from by decide +kernel]
            match v, hv with
            | 0, _ => exact ⟨71, atI_nat (i := 0) rfl, by decide⟩
            | 1, _ => exact ⟨75, atI_nat (i := 1) rfl, by decide⟩
            | 2, _ => exact ⟨80, atI_nat (i := 2) rfl, by decide⟩
          exact ⟨_, _, c, rfl, rfl, by decide +kernel, hc1, hy _ _ s4 x4 ⟨c, rfl, hc2⟩ ⟨tap4, x3.trans x4⟩ rfl⟩
        · rw [List.filter_eq_self.mpr fun _ _ => rfl] at rel
          obtain ⟨cs, e, hcl, hcs⟩ := gkpOf (n := n) List.length_range rel
          rw [List.length_range] at tap3
          subst e
          exact fin2 _ _ ⟨G, cs, rfl, tb2.step s3 x3 tap3, s3 _ _ (by simpa using hDt) hd2, hd3, hGt, hcl, hcs⟩
      subst es
      refine ⟨_, rfl, .inl ⟨rfl, _, isL hd3⟩, ?_⟩
      refine ⟨⟨_, rfl⟩, _, rfl, "", G, cs.map st1, rfl, rfl, .inl (isL hg3), ?_, ?_⟩
      · rw [sum_st1, show (("" : Str)).length = 0 from by decide]; simp; omega
      rw [join_st']
      refine ⟨_, rfl, t, l, ns, T0 + 10 * i + n, 2, rfl, tb3.p, by omega, by omega, by omega, fun H4 v s4 x4 tap4 hv => ?_⟩
      have tb4 := tb3.step s4 x4 tap4
      obtain ⟨c, hc1, hc2⟩ : ∃ c : Nat, atI ((("GK" : Str)).cps.toList) (v : Int) = some c ∧ (c = 71 ∨ c = 75) := by
        rw [show (("GK" : Str)).cps.toList = [71, 75] from by decide +kernel]
        match v, hv with
        | 0, _ => exact ⟨71, atI_nat (i := 0) rfl, by decide⟩
        | 1, _ => exact ⟨75, atI_nat (i := 1) rfl, by decide⟩
      refine ⟨_, _, c, rfl, rfl, by decide +kernel, hc1, by show 2 ≤ sizeLine; decide, fun p hp => ?_⟩
      have s5 := Same.new (o := .lst [.str (st1 c), .str "P"]) hp
      have e5 : upd H4 p (.lst [.str (st1 c), .str "P"]) p = some (.lst [.str (st1 c), .str "P"]) := upd_same
      have tb5 := tb4.same s5
      have hd5 := s5 _ _ (s4 _ _ (by simpa using hDt) hd3)
      generalize upd H4 p (.lst [.str (st1 c), .str "P"]) = H5 at tb5 hd5 e5 ⊢
      obtain ⟨c2, k1, k2, k3⟩ : ∃ c2 : Nat, atI [V.str (st1 c), V.str "P"] (low r : Int) = some (.str (st1 c2)) ∧ (c2 = 71 ∨ c2 = 75 ∨ c2 = 80) ∧ (c2 = 80 ↔ r = true) := by
        cases r with
        | false => exact ⟨c, atI_nat (i := 0) rfl, by omega, by simp; omega⟩
        | true => exact ⟨80, by rw [sP]; exact atI_nat (i := 1) rfl, by decide, by simp⟩
      refine ⟨_, rfl, p, _, _, _, rfl, rfl, isL e5, k1, _, _, rfl, rfl, ?_, ?_⟩
      · rw [sOf_len]
        show cs.length + 1 ≤ sizeLine
        exact sz10 (by omega)
      rw [st_append]
      refine ⟨D, _, _, rfl, rfl, hd5, by rw [zStr_len]; exact sz8 (by omega), ?_⟩
      refine ⟨_, _, zs ++ [cs ++ [c2]], rfl, (tb5.lst hDH hd5 hDt hDl).more (by omega), by rw [upd_same]; simp, by simp [hl2], fun z hz => ?_⟩
      rcases List.mem_append.mp hz with e | e
      · exact hz2 z e
      · rw [List.mem_singleton.mp e]
        refine ⟨by simp [hcl], fun d hd => ?_, ?_⟩
        · rcases List.mem_append.mp hd with q1 | q1
          · exact hcs d q1
          · rw [List.mem_singleton.mp q1]; exact k2
        · rw [List.getElem?_append_right (by omega), hcl, Nat.sub_self]
          simpa using k3
    subst es
    exact ⟨_, rfl, q _ D zs tb2.x tb2.e tb2.p hd2 hl2 hz2⟩
end
end Cp
/-! The law's seen. -/
namespace Cp
open PySem PySem.Spec PyProof.Rows L2
/-- carries differ at a place in a trial -/
def cdif (z : List Nat) (M M' : Net) (i : Nat) : Bool := decide ((cars z M).getD i 0 ≠ (cars z M').getD i 0)
def seenF (M M' : Net) (zs : List (List Nat)) (lo : Nat) : List Nat := ((List.range M.os.length).filter fun i => zs.any fun z => cdif z M M' i).map fun i => lo + i
theorem pw_eq : ∀ {l m : List Int}, l.Pairwise (· < ·) → m.Pairwise (· < ·) → (∀ k, k ∈ l ↔ k ∈ m) → l = m
  | [], [], _, _, _ => rfl
  | [], y :: m, _, _, h => absurd ((h y).mpr (by simp)) (by simp)
  | x :: l, [], _, _, h => absurd ((h x).mp (by simp)) (by simp)
  | x :: l, y :: m, h1, h2, h => by
    have a1 := List.pairwise_cons.mp h1
    have a2 := List.pairwise_cons.mp h2
    have hx := List.mem_cons.mp ((h x).mp (by simp))
    have hy := List.mem_cons.mp ((h y).mpr (by simp))
    have e : x = y := by
      rcases hx with q | q
      · exact q
      · rcases hy with q2 | q2
        · exact q2.symm
        · have := a1.1 y q2
          have := a2.1 x q
          omega
    subst e
    rw [pw_eq a1.2 a2.2 fun k => ?_]
    constructor
    · intro hk
      rcases List.mem_cons.mp ((h k).mp (by simp [hk])) with q | q
      · have := a1.1 k hk; omega
      · exact q
    · intro hk
      rcases List.mem_cons.mp ((h k).mpr (by simp [hk])) with q | q
      · have := a2.1 k hk; omega
      · exact q
theorem nd_len {α : Type} [DecidableEq α] : ∀ {a b : List α}, a.Nodup → (∀ x ∈ a, x ∈ b) → a.length ≤ b.length
  | [], _, _, _ => Nat.zero_le _
  | x :: a, b, hn, h => by
    have hn' := List.nodup_cons.mp hn
    have := nd_len (a := a) (b := b.erase x) hn'.2 fun y hy => (List.mem_erase_of_ne (fun (e : y = x) => hn'.1 (e ▸ hy))).mpr (h y (by simp [hy]))
    have hl := List.length_erase_of_mem (h x (by simp))
    have hp : 0 < b.length := List.length_pos_of_mem (h x (by simp))
    simp
    omega
theorem seenF_pw (M M' : Net) (zs : List (List Nat)) (lo : Nat) : ((seenF M M' zs lo).map fun n : Nat => (n : Int)).Pairwise (· < ·) := by
  unfold seenF
  rw [List.map_map, List.pairwise_map]
  refine (List.Pairwise.filter _ List.pairwise_lt_range).imp fun h => ?_
  show ((lo + _ : Nat) : Int) < ((lo + _ : Nat) : Int)
  omega
section
variable {P : Program} {w : World} {K : PySem.W.Frag} {mg : Str → Option Value} {base : Heap}
def spLSeen (K : PySem.W.Frag) : Sp := fun vs H Q _ => ∃ (r : Bool) (a b c : Addr) (M M' : Net) (zs : List (List Nat)), vs = [.ref a, .ref b, .ref c] ∧ NetAt K r H a M ∧ NetOk r M ∧ NetAt K r H b M' ∧ NetOk r M' ∧ M'.n = M.n ∧ SqL K H c (zStr zs) ∧ zs.length ≤ 100 ∧ (∀ z ∈ zs, TrialOk r M.n z) ∧
  ∀ H' p, Same H H' → SqT K H' p (nInts (seenF M M' zs (low r))) → Q (.ref p) H'
theorem sc_law_seen : FnScope ["_law_net_here", "_law_later", "_law_tests_here", "_law_found", "_law_test", "_law_pairs", "_law_k", "_law_one", "_law_mate"] ["_law_net_here", "_law_later", "_law_tests_here"] (defScope s_law_seen) := ⟨rfl, rfl, rfl, by decide +kernel, rfl, by decide +kernel, by decide +kernel⟩
theorem ok_law_seen (T : Txt w K mg) : FnR P w K mg base CX0 5 (gA "_law_seen" K) (spLSeen K) := by
  obtain ⟨fd, F⟩ := T.f_law_seen
  refine mkR F sc_law_seen (fun _ _ _ _ _ _ us hl => match us, hl with | [_, _, _], _ => rfl) (fun vs H Q E h => ?_) (fun cdv A outer s H vs Q E hr h => ?_)
  · obtain ⟨r, a, b, c, M, M', zs, rfl, _⟩ := h
    rfl
  · obtain ⟨r, a, b, c, M, M', zs, rfl, hnet, hM, hnet', hM', hn, hc, hzl, hzs, q⟩ := h
    have nd := sc_law_seen.nd
    have hlow := low_le1 r
    have hn24 := hM.hi
    have houts := hM.outs
    have houts' := hM'.outs
    obtain ⟨dx, j, e, hd, h1, _⟩ := id hnet
    obtain ⟨dy, j', e', hd', h1', _⟩ := id hnet'
    obtain ⟨u3, c3⟩ := T.v_N_LOWEST r
    refine ⟨_, (pss_cons (ps_set (i := 3) nd rfl (Or.inl rfl) (pe_lst pa_nil))
      (pss_cons (ps_for PassesOwn.never rfl (pi_list (pv 2)) (pg_name (i := 4) nd rfl (Or.inl rfl))
        (pss_cons (ps_set (i := 5) nd rfl (Or.inl rfl) (pe_listZip rfl (by rfl) T.b_list (by rfl) T.b_zip (pa_cons (rf_meth (pv 0) (T.cl_N r) (T.m_N_carries r) (ok_Network_carries T r) hr (pa_cons (pv 4) pa_nil)) (pa_cons (rf_meth (pv 1) (T.cl_N r) (T.m_N_carries r) (ok_Network_carries T r) hr (pa_cons (pv 4) pa_nil)) pa_nil))))
      (pss_one (ps_expr (pe_bm PySem.F.plainAttrs_list PySem.F.slot_list_extend PySem.F.type_list_extend mt_extend (pv 3) (pa_cons (pe_lc (own := [("_law_k", 6), ("_law_one", 7), ("_law_mate", 8)]) (g := (gTup K 2 (gCons (gName 6) (gCons (gTup K 2 (gCons (gName 7) (gCons (gName 8) gNil))) gNil)))) (tt := (tTest (tOp rNe (tVar 7) (tVar 8)))) (te := (tOp (rI0 fun i j => .int (i + j)) (tCon K (tVar 0) "LOWEST") (tVar 6))) rfl nd (pi_enum (by rfl) T.b_enumerate (pa_cons (pv 5) pa_nil)) (blkOk_by (N := ["_law_net_here", "_law_later", "_law_tests_here", "_law_found", "_law_test", "_law_pairs", "_law_k", "_law_one", "_law_mate"]) (sc := defScope s_law_seen) (by decide +kernel)) (fun _ _ _ _ _ => (pg_tup rfl (pgs_cons (pg_name (i := 6) nd rfl (Or.inl rfl)) (pgs_cons (pg_tup rfl (pgs_cons (pg_name (i := 7) nd rfl (Or.inl rfl)) (pgs_cons (pg_name (i := 8) nd rfl (Or.inl rfl)) pgs_nil))) pgs_nil)))) (fun _ _ _ _ _ => (pts_one (pt_cmpR op_ne (pv 7) (pv 8) (nomark _)))) (fun _ _ _ _ _ => (pe_op op_add (pe_con (pv 0) rfl) (pv 6)))) pa_nil))))))
      (pss_one (ps_ret (pe_callTy call_tuple_of (by rfl) T.b_tuple (by decide +kernel) (pa_cons (pe_callB (cr_sortedSet rfl) (by rfl) T.b_sorted (by decide +kernel) (pa_cons (pe_callTy (cr_setL rfl) (by rfl) T.b_set (by decide +kernel) (pa_cons (pv 3) pa_nil)) pa_nil)) pa_nil)))))), ?_⟩
    refine tSeq_cut (fun σ H1 => ∃ D, σ = [some (.ref a), some (.ref b), some (.ref c), some (.ref D), none, none, none, none, none] ∧ Same H H1 ∧ H D = none ∧ H1 D = some (.lst [])) (fun NX fin => ?_) fun σ H1 ⟨D, es, s1, hDH, hd1⟩ => ?_
    · exact ⟨by show 0 ≤ sizeLine; decide, fun D hD => fin _ _ ⟨D, rfl, Same.new hD, hD, upd_same⟩⟩
    subst es
    refine tSeq_cut (fun σ H2 => ∃ u v ks, σ = [some (.ref a), some (.ref b), some (.ref c), some (.ref D), u, v, none, none, none] ∧ Same H H2 ∧ H2 D = some (.lst (nInts ks)) ∧ ks.length ≤ 4000 ∧ ∀ x, x ∈ ks ↔ ∃ z ∈ zs, ∃ k, k < M.os.length ∧ cdif z M M' k = true ∧ x = low r + k) (fun NX fin => ?_) fun σ H2 ⟨u, v, ks, es, s2, hd2, hkl, hks⟩ => ?_
    · refine ⟨_, rfl, c, rfl, ⟨_, Same.sql s1 hc⟩, ?_⟩
      have ww : Walk (Itl K c) zs.length (fun H => SqL K H c (zStr zs)) (YAt (zStr zs)) := by
        have w := walk_list (K := K) (a := c) (xs := zStr zs)
        rwa [zStr_len] at w
      refine for_it ww (fun i σ H2 => ∃ u v ks, σ = [some (.ref a), some (.ref b), some (.ref c), some (.ref D), u, v, none, none, none] ∧ Same H H2 ∧ H2 D = some (.lst (nInts ks)) ∧ ks.length ≤ 25 * i ∧ ∀ x, x ∈ ks ↔ ∃ z ∈ zs.take i, ∃ k, k < M.os.length ∧ cdif z M M' k = true ∧ x = low r + k)
        ⟨none, none, [], rfl, s1, hd1, Nat.zero_le _, fun x => by simp⟩ (fun i σ H2 _ ⟨u, v, ks, es, s2, _⟩ => Same.sql s2 hc) (fun i x σ Hy H2 hi ⟨u, v, ks, es, s2, hd2, hkl, hks⟩ yy => ?_) (fun σ H2 ⟨u, v, ks, es, s2, hd2, hkl, hks⟩ => fin _ _ ⟨u, v, ks, es, s2, hd2, by omega, by rw [List.take_length] at hks; exact hks⟩)
      obtain ⟨rfl, hx⟩ := yy
      obtain ⟨z, hz, rfl⟩ := zStr_get hx
      subst es
      have hzo := hzs z (List.mem_of_getElem? hz)
      have lc1 : (cars z M).length = M.os.length := by simp [cars]
      have lc2 : (cars z M').length = M.os.length := by simp [cars]; omega
      refine tSeq_cut (fun σ H3 => ∃ p ts, σ = [some (.ref a), some (.ref b), some (.ref c), some (.ref D), some (.str (sOf z)), some (.ref p), none, none, none] ∧ Same H2 H3 ∧ H3 p = some (.lst (ts.map V.ref)) ∧ Rel2 (fun t (q : V × V) => H3 t = some (.tup [q.1, q.2])) ts ((nInts (cars z M)).zip (nInts (cars z M')))) (fun NX2 fin2 => ?_) fun σ H3 ⟨p, ts, es, s3, hts, rel⟩ => ?_
      · refine ⟨_, rfl, a, dx, _, rfl, s2 _ _ h1, rfl, _, rfl, a, M, z, rfl, NetAt.mono s2 hnet, hM, hzo, fun H3 b1 s3 hb1 => ?_⟩
        have s23 := s2.trans s3
        refine ⟨_, rfl, b, dy, _, rfl, s23 _ _ h1', rfl, _, rfl, b, M', z, rfl, NetAt.mono s23 hnet', hM', by rw [hn]; exact hzo, fun H4 b2 s4 hb2 => ?_⟩
        refine ⟨b1, b2, _, _, rfl, Same.sqt s4 hb1, hb2, by rw [nInts_len, nInts_len]; omega, by rw [nInts_len]; omega, fun H5 p ts s5 hp hts rel => ?_⟩
        exact fin2 _ _ ⟨p, ts, rfl, (s3.trans s4).trans s5, hts, rel⟩
      subst es
      have lts : ts.length = M.os.length := by have := rel.1; simp [nInts, lc1, lc2] at this; exact this
      have s23 := s2.trans s3
      have hd3 := s3 _ _ hd2
      refine ⟨_, rfl, .inl ⟨rfl, _, isL hd3⟩, _, rfl, p, _, rfl, isL hts, fun L hL => ?_⟩
      refine lc_pure (items := List.range M.os.length) hL (w := by have w := walk_enum (K := K) (a := p) (xs := ts.map V.ref); rwa [List.length_map, lts, ← List.length_range (n := M.os.length)] at w)
        (cdif z M M') (fun _ v i => v = .int ((low r + i : Nat) : Int)) (fun _ _ _ _ _ h => h) (by rw [List.length_range]; exact sz7 (by omega)) (fun H4 s4 => isL (s4 _ _ hts)) (fun i x ex H4 s4 Ky Kn hy hn2 v H' y => ?_) (fun acc H4 s4 hd4 rel4 => ?_)
      · obtain ⟨rfl, hi⟩ := range_get ex
        obtain ⟨T', i', q', rfl, hT, rfl, ei, hx⟩ := y
        obtain ⟨t, ht, rfl⟩ := refs_get hx
        cases ei
        have e1 : (cars z M)[x]? = some ((cars z M).getD x 0) := by rw [List.getD_eq_getElem?_getD, List.getElem?_eq_getElem (by omega)]; rfl
        have e2 : (cars z M')[x]? = some ((cars z M').getD x 0) := by rw [List.getD_eq_getElem?_getD, List.getElem?_eq_getElem (by omega)]; rfl
        have ez : ((nInts (cars z M)).zip (nInts (cars z M')))[x]? = some (.int ((cars z M).getD x 0 : Nat), .int ((cars z M').getD x 0 : Nat)) := by rw [List.getElem?_zip_eq_some]; exact ⟨get_nInts e1, get_nInts e2⟩
        have htt := rel.2 x t _ ht ez
        have sT : Same H4 (upd H4 T' (.tup [.int (x : Nat), .ref t])) := Same.new hT
        refine ⟨T', _, rfl, isT upd_same, rfl, _, _, rfl, _, _, rfl, ⟨t, _, rfl, isT (sT _ _ (s4 _ _ htt)), rfl, _, _, rfl, _, _, rfl, rfl, rfl, rfl, ?_⟩⟩
        refine ⟨_, rfl, _, rfl, rfl, _, rfl, ?_⟩
        rw [dInt]
        by_cases he : (cars z M).getD x 0 = (cars z M').getD x 0
        · rw [decide_eq_true (by omega)]
          exact iteF (hn2 _ sT (decide_eq_false fun z => z he))
        · rw [decide_eq_false (by omega)]
          refine iteT ?_
          refine ⟨_, rfl, a, _, dx, _, _, u3, rfl, sT _ _ (s4 _ _ (s23 _ _ h1)), T.cl_N r, c3, rfl, _, rfl, _, _, rfl, rfl, ?_⟩
          refine hy _ _ sT ?_ (decide_eq_true he)
          show V.int _ = V.int _
          rw [Int.natCast_add]
          cases r <;> rfl
      have e4 : acc = nInts (((List.range M.os.length).filter (cdif z M M')).map fun i => low r + i) := by rw [rel_map rel4]; simp [nInts]
      subst e4
      have lf : ((List.range M.os.length).filter (cdif z M M')).length ≤ M.os.length := Nat.le_trans (List.length_filter_le _ _) (by rw [List.length_range]; exact Nat.le_refl _)
      refine ⟨D, L, _, _, rfl, rfl, s4 _ _ hd3, hd4, by rw [nInts_len, nInts_len, List.length_map]; exact sz10 (by omega), ?_⟩
      refine ⟨_, _, ks ++ (((List.range M.os.length).filter (cdif z M M')).map fun i => low r + i), rfl, Same.mut (s23.trans s4) hDH, by rw [upd_same, nInts_append], by rw [List.length_append, List.length_map]; omega, fun x => ?_⟩
      rw [take_succ_of hz, List.mem_append, hks x]
      constructor
      · rintro (⟨z', hz', hh⟩ | h)
        · exact ⟨z', List.mem_append_left _ hz', hh⟩
        · obtain ⟨k, hk, rfl⟩ := List.mem_map.mp h
          have hk := List.mem_filter.mp hk
          exact ⟨z, by simp, k, List.mem_range.mp hk.1, hk.2, rfl⟩
      · rintro ⟨z', hz', k, k1, k2, rfl⟩
        rcases List.mem_append.mp hz' with q | q
        · exact .inl ⟨z', q, k, k1, k2, rfl⟩
        · rw [List.mem_singleton.mp q] at k2
          exact .inr (List.mem_map.mpr ⟨k, List.mem_filter.mpr ⟨List.mem_range.mpr k1, k2⟩, rfl⟩)
    subst es
    refine ⟨_, rfl, D, ks.map (fun n : Nat => (n : Int)), rfl, isL (by rw [List.map_map]; exact hd2), by rw [List.length_map]; exact hkl, fun p1 ds hnd hmem hp1 => ?_⟩
    have hin : ∀ x ∈ ds, x ∈ (List.range M.os.length).map fun k => ((low r + k : Nat) : Int) := fun x hx => by
      obtain ⟨y, hy, rfl⟩ := List.mem_map.mp ((hmem x).mp hx)
      obtain ⟨z, hz, k, k1, k2, rfl⟩ := (hks y).mp hy
      exact List.mem_map.mpr ⟨k, List.mem_range.mpr k1, rfl⟩
    have hdl := nd_len hnd hin
    rw [List.length_map, List.length_range] at hdl
    refine ⟨p1, _, ds.length, rfl, upd_same, by omega, fun ns p2 hpw hmem2 hlen hp2 => ⟨p2, _, rfl, .inl ⟨isL upd_same, fun t ht => ?_⟩⟩⟩
    have ens : ns = (seenF M M' zs (low r)).map fun n : Nat => (n : Int) := pw_eq hpw (seenF_pw _ _ _ _) fun k => by
      rw [hmem2 k, decide_eq_true_eq]
      constructor
      · intro h
        obtain ⟨y, hy, rfl⟩ := List.mem_map.mp h
        obtain ⟨z, hz, i, k1, k2, rfl⟩ := (hks y).mp hy
        exact List.mem_map.mpr ⟨low r + i, List.mem_map.mpr ⟨i, List.mem_filter.mpr ⟨List.mem_range.mpr k1, List.any_eq_true.mpr ⟨z, hz, k2⟩⟩, rfl⟩, rfl⟩
      · intro h
        obtain ⟨y, hy, rfl⟩ := List.mem_map.mp h
        obtain ⟨i, hi, rfl⟩ := List.mem_map.mp hy
        have hi := List.mem_filter.mp hi
        obtain ⟨z, hz, k2⟩ := List.any_eq_true.mp hi.2
        exact List.mem_map.mpr ⟨low r + i, (hks _).mpr ⟨z, hz, i, List.mem_range.mp hi.1, k2, rfl⟩, rfl⟩
    subst ens
    refine q _ t (((s2.trans (Same.new hp1)).trans (Same.new hp2)).trans (Same.new ht)) (isT ?_)
    rw [upd_same, List.map_map]
    rfl
end
end Cp
/-! The law's parting. -/
namespace Cp
open PySem PySem.Spec PyProof.Rows L2
def odif (M M' : Net) (i : Nat) : Bool := decide ((outOrds M).getD i [] ≠ (outOrds M').getD i [])
theorem chg_odif (M M' : Net) (lo : Nat) : chg M M' lo = ((List.range M.os.length).filter (odif M M')).map fun i => lo + i := rfl
theorem range_filter_succ (p : Nat → Bool) (i : Nat) : ((List.range (i + 1)).filter p).length = ((List.range i).filter p).length + if p i = true then 1 else 0 := by
  rw [List.range_succ, List.filter_append, List.length_append]
  by_cases h : p i = true
  · rw [if_pos h, List.filter_cons_of_pos h]; rfl
  · rw [if_neg h, List.filter_cons_of_neg h]; rfl
/-- a trial tells the orders at a place apart -/
def Tells (M M' : Net) (z : List Nat) (i : Nat) : Prop := ¬ (val z ((outOrds M).getD i []) = 71 ↔ val z ((outOrds M').getD i []) = 71)
section
variable {P : Program} {w : World} {K : PySem.W.Frag} {mg : Str → Option Value} {base : Heap}
def spLPart (K : PySem.W.Frag) : Sp := fun vs H Q _ => ∃ (r : Bool) (a b : Addr) (M M' : Net), vs = [.ref a, .ref b] ∧ NetAt K r H a M ∧ NetOk r M ∧ NetAt K r H b M' ∧ NetOk r M' ∧ M'.n = M.n ∧
  ∀ H' p zs, Same H H' → H' p = some (.lst (zStr zs)) → zs.length = (chg M M' (low r)).length → (∀ z ∈ zs, TrialOk r M.n z) → (∀ i, i < M.os.length → odif M M' i = true → ∃ z ∈ zs, Tells M M' z i) → Q (.ref p) H'
theorem sc_law_parting : FnScope ["_law_net_here", "_law_later", "_law_found", "_law_first", "_law_second", "_law_test"] ["_law_net_here", "_law_later"] (defScope s_law_parting) := ⟨rfl, rfl, rfl, by decide +kernel, rfl, by decide +kernel, by decide +kernel⟩
theorem ok_law_parting (T : Txt w K mg) : FnR P w K mg base CX0 8 (gA "_law_parting" K) (spLPart K) := by
  obtain ⟨fd, F⟩ := T.f_law_parting
  refine mkR F sc_law_parting (fun _ _ _ _ _ _ us hl => match us, hl with | [_, _], _ => rfl) (fun vs H Q E h => ?_) (fun cdv A outer s H vs Q E hr h => ?_)
  · obtain ⟨r, a, b, M, M', rfl, _⟩ := h
    rfl
  · obtain ⟨r, a, b, M, M', rfl, hnet, hM, hnet', hM', hn, q⟩ := h
    have nd := sc_law_parting.nd
    have hlow := low_le1 r
    have hn24 := hM.hi
    have houts := hM.outs
    have houts' := hM'.outs
    obtain ⟨dx, j, e, hd, h1, _⟩ := id hnet
    obtain ⟨dy, j', e', hd', h1', _⟩ := id hnet'
    obtain ⟨u3, c3⟩ := T.v_N_LOWEST r
    have lo1 : (outOrds M).length = M.os.length := by simp [outOrds]
    have lo2 : (outOrds M').length = M.os.length := by simp [outOrds]; omega
    have er : decide (V.int (if r = true then 1 else 0) = V.int 1) = r := by rw [dInt]; cases r <;> rfl
    refine ⟨_, (pss_cons (ps_set (i := 2) nd rfl (Or.inl rfl) (pe_lst pa_nil))
      (pss_cons (ps_for PassesOwn.never rfl (pi_list (pe_listZip rfl (by rfl) T.b_list (by rfl) T.b_zip (pa_cons (rf_prop (pv 0) (T.cl_N r) (T.p_N_orders r) (ok_Network_orders T r) hr) (pa_cons (rf_prop (pv 1) (T.cl_N r) (T.p_N_orders r) (ok_Network_orders T r) hr) pa_nil)))) (pg_tup rfl (pgs_cons (pg_name (i := 3) nd rfl (Or.inl rfl)) (pgs_cons (pg_name (i := 4) nd rfl (Or.inl rfl)) pgs_nil)))
        (pss_cons (ps_set (i := 5) nd rfl (Or.inl rfl) (rf_callW (ok_telling_trial T) hr T.g_telling_trial T.k_telling_trial (pa_cons (pv 3) (pa_cons (pv 4) pa_nil)) (pk_cons (rf_prop (pv 0) (T.cl_N r) (T.p_N_size r) (ok_Network_size T r) hr) (pk_cons (pe_cmpR op_eq (pe_con (pv 0) rfl) pe_int (nomark _)) pk_nil))))
      (pss_one (ps_set (i := 2) nd rfl (Or.inl rfl) (pe_op op_cat (pv 2) (pe_op op_rep (pe_lst (pa_cons (pv 5) pa_nil)) (pe_callTy call_int1 (by rfl) T.b_int (by decide +kernel) (pa_cons (pe_cmpR op_notN (pv 5) pe_non (nomark _)) pa_nil))))))))
      (pss_one (ps_ret (pv 2))))), ?_⟩
    refine tSeq_cut (fun σ H1 => ∃ F, σ = [some (.ref a), some (.ref b), some (.ref F), none, none, none] ∧ Same H H1 ∧ H1 F = some (.lst (zStr []))) (fun NX fin => ?_) fun σ H1 ⟨F, es, s1, hF1⟩ => ?_
    · exact ⟨by show 0 ≤ sizeLine; decide, fun F hF => fin _ _ ⟨F, rfl, Same.new hF, upd_same⟩⟩
    subst es
    refine tSeq_cut (fun σ H2 => ∃ F u v y zs, σ = [some (.ref a), some (.ref b), some (.ref F), u, v, y] ∧ Same H H2 ∧ H2 F = some (.lst (zStr zs)) ∧ zs.length = (chg M M' (low r)).length ∧ (∀ z ∈ zs, TrialOk r M.n z) ∧ ∀ i, i < M.os.length → odif M M' i = true → ∃ z ∈ zs, Tells M M' z i) (fun NX fin => ?_) fun σ H2 ⟨F, u, v, y, zs, es, s2, hF2, hl2, hz2, ht2⟩ => ?_
    · refine ⟨_, rfl, a, dx, _, rfl, s1 _ _ h1, a, M, rfl, NetAt.mono s1 hnet, hM, fun H2 b1 as1 s2 hb1 r1 => ?_⟩
      have s12 := s1.trans s2
      refine ⟨_, rfl, b, dy, _, rfl, s12 _ _ h1', b, M', rfl, NetAt.mono s12 hnet', hM', fun H3 b2 as2 s3 hb2 r2 => ?_⟩
      have s13 := s12.trans s3
      have r1' := r1.imp fun _ _ z => OrdAt.mono s3 z
      have l1 := r1.1
      have l2 := r2.1
      refine ⟨b1, b2, _, _, rfl, Same.sqt s3 hb1, hb2, by simp; omega, by simp; omega, fun H4 p ts s4 hp hts rel => ?_⟩
      have s14 := s13.trans s4
      have lts : ts.length = M.os.length := by have := rel.1; simp at this; omega
      have hF4 := (s2.trans (s3.trans s4)) _ _ hF1
      refine ⟨p, rfl, ⟨_, isL hts⟩, ?_⟩
      have ww : Walk (Itl K p) M.os.length (fun H => SqL K H p (ts.map V.ref)) (YAt (ts.map V.ref)) := by
        have w := walk_list (K := K) (a := p) (xs := ts.map V.ref)
        rwa [List.length_map, lts] at w
      refine for_it ww (fun i σ H5 => ∃ F u v y zs, σ = [some (.ref a), some (.ref b), some (.ref F), u, v, y] ∧ Same H4 H5 ∧ H5 F = some (.lst (zStr zs)) ∧ zs.length = ((List.range i).filter (odif M M')).length ∧ (∀ z ∈ zs, TrialOk r M.n z) ∧ ∀ k, k < i → odif M M' k = true → ∃ z ∈ zs, Tells M M' z k)
        ⟨F, none, none, none, [], rfl, Same.refl _, hF4, rfl, (fun z hz => by cases hz), fun k hk => by omega⟩ (fun i σ H5 _ ⟨F, u, v, y, zs, es, s5, _⟩ => isL (s5 _ _ hts)) (fun i x σ Hy H5 hi ⟨F, u, v, y, zs, es, s5, hF5, hl5, hz5, ht5⟩ yy => ?_)
        (fun σ H5 ⟨F, u, v, y, zs, es, s5, hF5, hl5, hz5, ht5⟩ => fin _ _ ⟨F, u, v, y, zs, es, s14.trans s5, hF5, by rw [chg_odif, List.length_map]; exact hl5, hz5, ht5⟩)
      obtain ⟨rfl, hx⟩ := yy
      obtain ⟨t, ht, rfl⟩ := refs_get hx
      subst es
      have e1 : (outOrds M)[i]? = some ((outOrds M).getD i []) := by rw [List.getD_eq_getElem?_getD, List.getElem?_eq_getElem (by omega)]; rfl
      have e2 : (outOrds M')[i]? = some ((outOrds M').getD i []) := by rw [List.getD_eq_getElem?_getD, List.getElem?_eq_getElem (by omega)]; rfl
      obtain ⟨o1, ho1, k1⟩ := r1'.get e1
      obtain ⟨o2, ho2, k2⟩ := r2.get e2
      have ez : ((as1.map V.ref).zip (as2.map V.ref))[i]? = some (.ref o1, .ref o2) := by rw [List.getElem?_zip_eq_some]; exact ⟨get_refs ho1, get_refs ho2⟩
      have htt := s5 _ _ (rel.2 i t _ ht ez)
      have s45 := s4.trans s5
      have k1 := OrdAt.mono s45 k1
      have k2 := OrdAt.mono s45 k2
      have s15 := s14.trans s5
      have hlz : zs.length ≤ i := by rw [hl5]; exact Nat.le_trans (List.length_filter_le _ _) (by rw [List.length_range]; exact Nat.le_refl _)
      refine ⟨t, _, rfl, isT htt, rfl, _, _, rfl, _, _, rfl, rfl, ?_⟩
      refine tSeq_cut (fun σ H6 => ∃ x, σ = [some (.ref a), some (.ref b), some (.ref F), some (.ref o1), some (.ref o2), some x] ∧ Same H5 H6 ∧ ((odif M M' i = false ∧ x = .non) ∨ (odif M M' i = true ∧ ∃ z, x = .str (sOf z) ∧ TrialOk r M.n z ∧ Tells M M' z i))) (fun NX2 fin2 => ?_) fun σ H6 ⟨x, es, s6, hx⟩ => ?_
      · refine ⟨_, rfl, _, rfl, _, rfl, a, dx, _, rfl, s15 _ _ h1, a, M, rfl, NetAt.mono s15 hnet, ?_⟩
        refine ⟨_, rfl, a, _, dx, _, _, u3, rfl, s15 _ _ h1, T.cl_N r, c3, rfl, rfl, ?_⟩
        refine ⟨o1, o2, _, _, M.n, r, rfl, (show [V.int (M.n : Nat), V.bl (decide (V.int (if r = true then 1 else 0) = V.int 1))] = [V.int (M.n : Nat), V.bl r] by rw [er]), hM.hi, k1, k2, outOrds_ok hM _ (List.mem_of_getElem? e1), by rw [← hn]; exact outOrds_ok hM' _ (List.mem_of_getElem? e2), fun he H6 s6 => ?_, fun he z H6 s6 hz1 hz2 => ?_⟩
        · exact fin2 _ _ ⟨_, rfl, s6, .inl ⟨decide_eq_false fun z => z he, rfl⟩⟩
        · exact fin2 _ _ ⟨_, rfl, s6, .inr ⟨decide_eq_true he, z, rfl, hz1, hz2⟩⟩
      subst es
      have hF6 := s6 _ _ hF5
      refine ⟨_, rfl, _, rfl, by show 1 ≤ sizeLine; decide, fun p1 hp1 => ?_⟩
      have s7 := Same.new (o := .lst [x]) hp1
      have e7 : upd H6 p1 (.lst [x]) p1 = some (.lst [x]) := upd_same
      generalize upd H6 p1 (.lst [x]) = H7 at s7 e7 ⊢
      have hF7 := s7 _ _ hF6
      have s57 := (s5.trans s6).trans s7
      rcases hx with ⟨ho, rfl⟩ | ⟨ho, z, rfl, hz1, hz2⟩
      · have e0 : V.int (if (!decide ((V.non : V) = .non)) = true then (1 : Int) else 0) = V.int 0 := congrArg V.int (by simp)
        refine ⟨_, rfl, rfl, .inr ⟨_, rfl, p1, 0, _, rfl, e0, e7, by decide, by decide, by simp, fun p2 hp2 => ?_⟩⟩
        have s8 := Same.new (o := .lst (List.replicate (Int.toNat 0) [(V.non : V)]).flatten) hp2
        have e8 : upd H7 p2 (.lst (List.replicate (Int.toNat 0) [(V.non : V)]).flatten) p2 = some (.lst []) := upd_same
        generalize upd H7 p2 (.lst (List.replicate (Int.toNat 0) [(V.non : V)]).flatten) = H8 at s8 e8 ⊢
        refine ⟨F, p2, _, _, rfl, rfl, s8 _ _ hF7, e8, by rw [zStr_len]; exact sz10 (by simp; omega), fun p3 hp3 => ?_⟩
        rw [List.append_nil]
        refine ⟨p3, _, _, _, zs, rfl, (s57.trans s8).trans (Same.new hp3), upd_same, by rw [range_filter_succ, if_neg (by rw [ho]; decide)]; exact hl5, hz5, fun k hk hok => ?_⟩
        rcases Nat.lt_or_ge k i with c | c
        · exact ht5 k c hok
        · have : k = i := by omega
          subst this
          rw [ho] at hok; cases hok
      · have e0 : V.int (if (!decide ((V.str (sOf z) : V) = .non)) = true then (1 : Int) else 0) = V.int 1 := congrArg V.int (by simp)
        refine ⟨_, rfl, rfl, .inr ⟨_, rfl, p1, 1, _, rfl, e0, e7, by decide, by decide, by simp; decide, fun p2 hp2 => ?_⟩⟩
        have s8 := Same.new (o := .lst (List.replicate (Int.toNat 1) [(V.str (sOf z) : V)]).flatten) hp2
        have e8 : upd H7 p2 (.lst (List.replicate (Int.toNat 1) [(V.str (sOf z) : V)]).flatten) p2 = some (.lst [V.str (sOf z)]) := upd_same
        generalize upd H7 p2 (.lst (List.replicate (Int.toNat 1) [(V.str (sOf z) : V)]).flatten) = H8 at s8 e8 ⊢
        refine ⟨F, p2, _, _, rfl, rfl, s8 _ _ hF7, e8, by rw [zStr_len]; exact sz10 (by simp; omega), fun p3 hp3 => ?_⟩
        refine ⟨p3, _, _, _, zs ++ [z], rfl, (s57.trans s8).trans (Same.new hp3), by rw [upd_same]; simp, by rw [range_filter_succ, if_pos ho, List.length_append, hl5]; rfl, fun z' hz' => ?_, fun k hk hok => ?_⟩
        · rcases List.mem_append.mp hz' with c | c
          · exact hz5 z' c
          · rw [List.mem_singleton.mp c]; exact hz1
        · rcases Nat.lt_or_ge k i with c | c
          · obtain ⟨z', h1, h2⟩ := ht5 k c hok
            exact ⟨z', List.mem_append_left _ h1, h2⟩
          · have : k = i := by omega
            subst this
            exact ⟨z, by simp, hz2⟩
    subst es
    exact ⟨_, rfl, q _ F zs s2 hF2 hl2 hz2 ht2⟩
end
end Cp
/-! What is seen is what is told. -/
namespace Cp
open PySem PySem.Spec PyProof.Rows L2
theorem tell_any {r : Bool} {n : Nat} {a b : List Nat} (ha : OrdOk r n a) (hb : OrdOk r n b) (hne : a ≠ b) : ∃ z, TrialOk r n z ∧ ¬ (val z a = 71 ↔ val z b = 71) := by
  by_cases h0 : alone a b = [0]
  · exact ⟨_, tell1 ha hb h0⟩
  by_cases h1 : alone a b = []
  · obtain ⟨hl, _⟩ := same_len ha.nd hb.nd h1
    cases hd : diffs a b with
    | nil => exact absurd hd (diffs_ne hl hne)
    | cons i t => exact ⟨_, (tell3 ha hb h1 hd).2⟩
  · have : ∃ m ∈ alone a b, m ≠ 0 := by
      apply Classical.byContradiction
      intro hx
      exact h0 (one_zero (alone_nodup ha.nd hb.nd) (fun x hm => Classical.byContradiction fun h => hx ⟨x, hm, h⟩) h1)
    obtain ⟨m, hm, hm0⟩ := this
    exact ⟨_, tell2 ha hb hm hm0⟩
theorem getD_map0 {l : List (List Nat)} {f : List Nat → Nat} {i : Nat} (h : i < l.length) : (l.map f).getD i 0 = f (l.getD i []) := by
  rw [List.getD_eq_getElem?_getD, List.getD_eq_getElem?_getD, List.getElem?_map, List.getElem?_eq_getElem h]; rfl
theorem cdif_tells {r : Bool} {M M' : Net} {z : List Nat} {i : Nat} (hM : NetOk r M) (hM' : NetOk r M') (hn : M'.n = M.n) (hz : TrialOk r M.n z) (hi : i < M.os.length) : cdif z M M' i = true ↔ Tells M M' z i := by
  have h1 := hM.outs
  have h2 := hM'.outs
  have lo1 : (outOrds M).length = M.os.length := by simp [outOrds]
  have lo2 : (outOrds M').length = M.os.length := by simp [outOrds]; omega
  unfold cdif Tells
  rw [cars_val hM hz, cars_val hM' (by rw [hn]; exact hz), getD_map0 (by omega), getD_map0 (by omega), decide_eq_true_eq]
  generalize val z ((outOrds M).getD i []) = p
  generalize val z ((outOrds M').getD i []) = q
  by_cases a : p = 71 <;> by_cases b : q = 71 <;> simp [a, b]
theorem seen_chg {r : Bool} {M M' : Net} {zs : List (List Nat)} {lo : Nat} (hM : NetOk r M) (hM' : NetOk r M') (hn : M'.n = M.n) (hz : ∀ z ∈ zs, TrialOk r M.n z) (hc : ∀ i, i < M.os.length → odif M M' i = true → ∃ z ∈ zs, Tells M M' z i) : seenF M M' zs lo = chg M M' lo := by
  rw [chg_odif]
  unfold seenF
  congr 1
  refine List.filter_congr fun i hi => ?_
  have hi := List.mem_range.mp hi
  rw [Bool.eq_iff_iff, List.any_eq_true]
  constructor
  · rintro ⟨z, hz1, hz2⟩
    have ht := (cdif_tells hM hM' hn (hz z hz1) hi).mp hz2
    exact decide_eq_true fun e => ht (by rw [e])
  · intro h
    obtain ⟨z, hz1, hz2⟩ := hc i hi h
    exact ⟨z, hz1, (cdif_tells hM hM' hn (hz z hz1) hi).mpr hz2⟩
theorem outAt {M : Net} {i : Nat} (hi : i < M.os.length) : (outOrds M).getD i [] ∈ outOrds M := by
  have lo1 : (outOrds M).length = M.os.length := by simp [outOrds]
  rw [List.getD_eq_getElem?_getD, List.getElem?_eq_getElem (by omega)]
  exact List.getElem_mem _
theorem seen_tests {r : Bool} {M M' : Net} {lo : Nat} (hM : NetOk r M) (hM' : NetOk r M') (hn : M'.n = M.n) : seenF M M' (testsOf r M.n) lo = chg M M' lo := by
  have h1 := hM.outs
  have h2 := hM'.outs
  refine seen_chg hM hM' hn (fun z hz => mem_testsOf.mp hz) fun i hi ho => ?_
  obtain ⟨z, hz1, hz2⟩ := tell_any (outOrds_ok hM _ (outAt hi)) (by rw [← hn]; exact outOrds_ok hM' _ (outAt (by omega))) (of_decide_eq_true ho)
  exact ⟨z, mem_testsOf.mpr hz1, hz2⟩
theorem testsOf_len {r : Bool} {n : Nat} (hn : n ≤ 3) : (testsOf r n).length ≤ 81 := by
  have h := tests_take_len (r := r) (n := n) (i := n + 1) hn
  rwa [List.take_of_length_le (by rw [letters_len]; exact Nat.le_refl _)] at h
section
variable {P : Program} {w : World} {K : PySem.W.Frag} {mg : Str → Option Value} {base : Heap}
def spLTold (K : PySem.W.Frag) : Sp := fun vs H Q _ => ∃ (r : Bool) (t l a b c : Addr) (ns : List Int) (T : Nat) (M M' : Net), vs = [.ref t, .ref a, .ref b, .ref c] ∧ Tap t l ns T H ∧ T + 80 ≤ 100000 ∧ NetAt K r H a M ∧ NetOk r M ∧ NetAt K r H b M' ∧ NetOk r M' ∧ M'.n = M.n ∧ M.n ≤ 9 ∧ SqT K H c (nInts (chg M M' (low r))) ∧
  ∀ H', SameX [t] H H' → Ext H H' → Tap t l ns (T + 80) H' → Q (.bl true) H'
theorem sc_law_told_right : FnScope ["_law_tap_here", "_law_net_here", "_law_later", "_law_told", "_law_tests_here"] ["_law_tap_here", "_law_net_here", "_law_later", "_law_told"] (defScope s_law_told_right) := ⟨rfl, rfl, rfl, by decide +kernel, rfl, by decide +kernel, by decide +kernel⟩
theorem ok_law_told_right (T : Txt w K mg) : FnR P w K mg base CX0 9 (gA "_law_told_right" K) (spLTold K) := by
  obtain ⟨fd, F⟩ := T.f_law_told_right
  refine mkR F sc_law_told_right (fun _ _ _ _ _ _ us hl => match us, hl with | [_, _, _, _], _ => rfl) (fun vs H Q E h => ?_) (fun cdv A outer s H vs Q E hr h => ?_)
  · obtain ⟨r, t, l, a, b, c, ns, T0, M, M', rfl, _⟩ := h
    rfl
  · obtain ⟨r, t, l, a, b, c, ns, T0, M, M', rfl, htap, hT, hnet, hM, hnet', hM', hn, hn9, hc, q⟩ := h
    have nd := sc_law_told_right.nd
    have hlow := low_le1 r
    have houts := hM.outs
    obtain ⟨dx, j, e, hd, h1, _⟩ := id hnet
    obtain ⟨u3, c3⟩ := T.v_N_LOWEST r
    have er : V.int (if r = true then 1 else 0) = V.int (low r : Nat) := by cases r <;> rfl
    have lch : (chg M M' (low r)).length ≤ 10 := by rw [chg_odif, List.length_map]; exact Nat.le_trans (List.length_filter_le _ _) (by rw [List.length_range]; omega)
    refine ⟨_, (pss_cons (ps_if (pt_cmpR op_lt (rf_prop (pv 1) (T.cl_N r) (T.p_N_size r) (ok_Network_size T r) hr) pe_int (nomark _)) (pss_one (ps_ret (pe_cmpR (op_eqD hr.units) (rf_call (ok_law_seen T) hr T.g_law_seen T.k_law_seen (pa_cons (pv 1) (pa_cons (pv 2) (pa_cons (rf_call (ok_law_tests T) hr T.g_law_tests T.k_law_tests (pa_cons (pe_con (pv 1) rfl) (pa_cons (rf_prop (pv 1) (T.cl_N r) (T.p_N_size r) (ok_Network_size T r) hr) pa_nil))) pa_nil)))) (pv 3) (nomark _)))) pss_nil)
      (pss_cons (ps_set (i := 4) nd rfl (Or.inl rfl) (rf_call (ok_law_parting T) hr T.g_law_parting T.k_law_parting (pa_cons (pv 1) (pa_cons (pv 2) pa_nil))))
      (pss_cons (ps_if (pt_cmpR op_ne (pe_callB call_len (by rfl) T.b_len (by decide +kernel) (pa_cons (pv 4) pa_nil)) (pe_callB call_len (by rfl) T.b_len (by decide +kernel) (pa_cons (pv 3) pa_nil)) (nomark _)) (pss_one (ps_ret pe_bl)) pss_nil)
      (pss_one (ps_ret (pe_cmpR (op_eqD hr.units) (rf_call (ok_law_seen T) hr T.g_law_seen T.k_law_seen (pa_cons (pv 1) (pa_cons (pv 2) (pa_cons (pe_op op_cat (pv 4) (rf_call (ok_law_drawn T) hr T.g_law_drawn T.k_law_drawn (pa_cons (pv 0) (pa_cons (pe_con (pv 1) rfl) (pa_cons (rf_prop (pv 1) (T.cl_N r) (T.p_N_size r) (ok_Network_size T r) hr) pa_nil))))) pa_nil)))) (pv 3) (nomark _))))))), ?_⟩
    refine tSeq_cut (fun σ H1 => H1 = H ∧ σ = [some (.ref t), some (.ref a), some (.ref b), some (.ref c), none]) (fun NX fin => ?_) fun σ H1 ⟨eh, es⟩ => ?_
    · refine ⟨_, rfl, a, dx, _, rfl, h1, a, M, rfl, hnet, _, _, rfl, rfl, _, rfl, ?_⟩
      by_cases h4 : M.n < 4
      · rw [decide_eq_true (by omega)]
        refine iteT ?_
        refine ⟨_, rfl, _, rfl, _, rfl, a, _, dx, _, _, u3, rfl, h1, T.cl_N r, c3, rfl, _, rfl, a, dx, _, rfl, h1, a, M, rfl, hnet, r, M.n, (show [V.int (if r = true then 1 else 0), V.int (M.n : Nat)] = [V.int (low r : Nat), V.int (M.n : Nat)] by rw [er]), by omega, fun H1 p s1 hp => ?_⟩
        refine ⟨r, a, b, p, M, M', testsOf r M.n, rfl, NetAt.mono s1 hnet, hM, NetAt.mono s1 hnet', hM', hn, isL hp, by have := testsOf_len (r := r) (n := M.n) (by omega); omega, fun z hz => mem_testsOf.mp hz, fun H2 p2 s2 hp2 => ?_⟩
        have s12 := s1.trans s2
        refine ⟨_, rfl, _, _, dp_ints hp2, dp_ints (Same.sqt s12 hc), shp_ints _, shp_ints _, ?_⟩
        rw [eq_ints, seen_tests hM hM' hn, decide_eq_true rfl]
        exact q _ (SameX.of s12) (Same.ext s12) ((htap.mono s12).more (by omega))
      · rw [decide_eq_false (by omega)]
        exact iteF (fin _ _ ⟨rfl, rfl⟩)
    rw [eh, es]
    clear eh es
    refine tSeq_cut (fun σ H1 => ∃ p zs, σ = [some (.ref t), some (.ref a), some (.ref b), some (.ref c), some (.ref p)] ∧ Same H H1 ∧ H1 p = some (.lst (zStr zs)) ∧ zs.length = (chg M M' (low r)).length ∧ (∀ z ∈ zs, TrialOk r M.n z) ∧ ∀ i, i < M.os.length → odif M M' i = true → ∃ z ∈ zs, Tells M M' z i) (fun NX fin => ?_) fun σ H1 ⟨p, zs, es, s1, hp, hl, hz, ht⟩ => ?_
    · exact ⟨_, rfl, _, rfl, r, a, b, M, M', rfl, hnet, hM, hnet', hM', hn, fun H1 p zs s1 hp hl hz ht => fin _ _ ⟨p, zs, rfl, s1, hp, hl, hz, ht⟩⟩
    subst es
    have hc1 := Same.sqt s1 hc
    refine tSeq_cut (fun σ H2 => H2 = H1 ∧ σ = [some (.ref t), some (.ref a), some (.ref b), some (.ref c), some (.ref p)]) (fun NX fin => ?_) fun σ H2 ⟨eh, es⟩ => ?_
    · refine ⟨_, rfl, _, zs.length, rfl, .inl ⟨_, isL hp, by rw [zStr_len]⟩, _, rfl, _, (chg M M' (low r)).length, rfl, .inr ⟨_, hc1, by rw [nInts_len]⟩, rfl, _, rfl, ?_⟩
      rw [hl, dInt, decide_eq_true rfl]
      exact iteF (fin _ _ ⟨rfl, rfl⟩)
    rw [eh, es]
    clear eh es
    have tap1 := htap.mono s1
    have hpt : p ≠ t := fun z => by
      obtain ⟨_, _, g, _⟩ := tap1.at_
      rw [z, g] at hp
      cases zs <;> simp at hp
    have h11 := s1 _ _ h1
    have hnet1 := NetAt.mono s1 hnet
    refine ⟨_, rfl, _, rfl, _, rfl, _, rfl, _, rfl, a, _, dx, _, _, u3, rfl, h11, T.cl_N r, c3, rfl, _, rfl, a, dx, _, rfl, h11, a, M, rfl, hnet1, r, t, l, ns, T0, M.n, (show [V.ref t, V.int (if r = true then 1 else 0), V.int (M.n : Nat)] = [V.ref t, V.int (low r : Nat), V.int (M.n : Nat)] by rw [er]), tap1, hT, hn9, fun H2 b2 zs2 s2 x2 tap2 hb2 hl2 hz2 => ?_⟩
    have hp2 := s2 _ _ (by simpa using hpt) hp
    refine ⟨p, b2, _, _, rfl, rfl, hp2, hb2, by rw [zStr_len, zStr_len]; exact sz10 (by omega), fun p3 hp3 => ?_⟩
    have s3 := Same.new (o := .lst (zStr zs ++ zStr zs2)) hp3
    have x3 := x2.trans (Same.ext s3)
    have hz3 : ∀ z ∈ zs ++ zs2, TrialOk r M.n z := fun z h => (List.mem_append.mp h).elim (hz z) (hz2 z)
    refine ⟨r, a, b, p3, M, M', zs ++ zs2, rfl, Ext.net x3 hnet1, hM, Ext.net x3 (NetAt.mono s1 hnet'), hM', hn, isL (by rw [upd_same, show zStr (zs ++ zs2) = zStr zs ++ zStr zs2 from List.map_append]), by rw [List.length_append]; omega, hz3, fun H4 p4 s4 hp4 => ?_⟩
    have x4 := x3.trans (Same.ext s4)
    refine ⟨_, rfl, _, _, dp_ints hp4, dp_ints (Ext.sqt x4 hc1), shp_ints _, shp_ints _, ?_⟩
    rw [eq_ints, seen_chg hM hM' hn hz3 fun i hi ho => let ⟨z, k1, k2⟩ := ht i hi ho; ⟨z, List.mem_append_left _ k1, k2⟩, decide_eq_true rfl]
    exact q _ (((SameX.of s1).trans s2).trans (SameX.of (s3.trans s4))) ((Same.ext s1).trans x4) (tap2.mono (s3.trans s4))
end
end Cp
/-! The law's step. -/
namespace Cp
open PySem PySem.Spec PyProof.Rows L2
section
variable {H H1 H2 H' : Hp} {ts us : List Addr}
theorem SameX.more (h1 : SameX ts H H1) (h2 : SameX us H1 H2) (hu : ∀ x ∈ us, x ∈ ts ∨ H x = none) : SameX ts H H2 := fun a o na ha =>
  h2 a o (fun z => (hu a z).elim na (fun e => by rw [e] at ha; cases ha)) (h1 a o na ha)
theorem SameX.ext (h : SameX ts H H') (hu : ∀ x ∈ ts, ∀ o, H x = some o → fixd o = false) : Ext H H' := fun a o ha f =>
  h a o (fun z => by rw [hu a z o ha] at f; cases f) ha
theorem Tap.x {t l : Addr} {ns : List Int} {T : Nat} (s : SameX ts H H') (h1 : t ∉ ts) (h2 : l ∉ ts) (h : Tap t l ns T H) : Tap t l ns T H' :=
  ⟨let ⟨a, b, c, d, e⟩ := h.at_; ⟨a, b, s _ _ h1 c, d, e⟩, s _ _ h2 h.ls, h.ne, h.few⟩
theorem Tap.tn {t l : Addr} {ns : List Int} {T : Nat} (h : Tap t l ns T H) : H t ≠ none := fun z => by
  obtain ⟨_, _, g, _⟩ := h.at_
  rw [z] at g; cases g
theorem Tap.ln {t l : Addr} {ns : List Int} {T : Nat} (h : Tap t l ns T H) : H l ≠ none := fun z => by
  have g := h.ls
  rw [z] at g; cases g
end
theorem doneL_snoc {r : Bool} : ∀ {ds : List Deed} {M M1 M2 : Net} {d : Deed}, doneL r M ds = some M1 → done r M1 d = some M2 → doneL r M (ds ++ [d]) = some M2
  | [], M, M1, M2, d, h1, h2 => by
    cases h1
    show (match done r M d with | some M1 => doneL r M1 [] | none => none) = _
    rw [h2]; rfl
  | e :: ds, M, M1, M2, d, h1, h2 => by
    have h1 : (match done r M e with | some M1 => doneL r M1 ds | none => none) = some M1 := h1
    show (match done r M e with | some M1 => doneL r M1 (ds ++ [d]) | none => none) = _
    cases he : done r M e with
    | none => rw [he] at h1; cases h1
    | some Mx =>
      rw [he] at h1
      exact doneL_snoc (ds := ds) h1 h2
/-- a deed that stays while the tap and the list of deeds change -/
def Firm (K : PySem.W.Frag) (t D : Addr) (H : Hp) (e : Addr) (d : Deed) : Prop := ∀ H2, SameX [t, D] H H2 → Ext H H2 → DeedAt K H2 e d
theorem Firm.go {K : PySem.W.Frag} {t D : Addr} {H H' : Hp} {e : Addr} {d : Deed} (s : SameX [t, D] H H') (x : Ext H H') (h : Firm K t D H e d) : Firm K t D H' e d := fun H2 s2 x2 => h H2 (s.trans s2) (x.trans x2)
/-- what stands behind a step of the law -/
def StepPost (K : PySem.W.Frag) (r : Bool) (H H' : Hp) (t l : Addr) (ns : List Int) (T : Nat) (b dx p d : Addr) (n k : Nat) : Prop := ∃ a q ps M, BAt K H' b dx a p q d ∧ NetAt K r H' a M ∧ NetOk r M ∧ M.n = n ∧ H' p = some (.lst ps) ∧ ps.length ≤ k ∧ SameX [t, b, p] H H' ∧ Ext H H' ∧ Tap t l ns T H'
section
variable {P : Program} {w : World} {K : PySem.W.Frag} {mg : Str → Option Value} {base : Heap}
def spLStep (K : PySem.W.Frag) : Sp := fun vs H Q _ => ∃ (r : Bool) (t l b dx a p q d : Addr) (ns : List Int) (T : Nat) (M : Net) (ps : List V), vs = [.ref t, .ref b] ∧ Tap t l ns T H ∧ T + 120 ≤ 100000 ∧ BAt K H b dx a p q d ∧ NetAt K r H a M ∧ NetOk r M ∧ M.n ≤ 9 ∧ H p = some (.lst ps) ∧ ps.length ≤ 900 ∧ t ≠ b ∧ t ≠ p ∧ l ≠ b ∧ l ≠ p ∧
  ∀ H', StepPost K r H H' t l ns (T + 120) b dx p d M.n (ps.length + 1) → Q (.bl true) H'
theorem sc_law_step_right : FnScope ["_law_tap_here", "_law_bench", "_law_net_here", "_law_model", "_law_deeds", "_law_k", "_law_told", "_law_behind", "_law_deed", "_law_later"] ["_law_tap_here", "_law_bench"] (defScope s_law_step_right) := ⟨rfl, rfl, rfl, by decide +kernel, rfl, by decide +kernel, by decide +kernel⟩
theorem ok_law_step_right (T : Txt w K mg) : FnR P w K mg base CX0 11 (gA "_law_step_right" K) (spLStep K) := by
  obtain ⟨fd, F⟩ := T.f_law_step_right
  refine mkR F sc_law_step_right (fun _ _ _ _ _ _ us hl => match us, hl with | [_, _], _ => rfl) (fun vs H Q E h => ?_) (fun cdv A outer s H vs Q E hr h => ?_)
  · obtain ⟨r, t, l, b, dx, a, p, q, d, ns, T0, M, ps, rfl, _⟩ := h
    rfl
  · obtain ⟨r, t, l, b, dx, a, p, q1, d, ns, T0, M, ps, rfl, htap, hT, hb, hnet, hM, hn9, hp, hps, htb, htp, hlb, hlp, q⟩ := h
    have nd := sc_law_step_right.nd
    have hlow := low_le1 r
    obtain ⟨u3, c3⟩ := T.v_N_LOWEST r
    have er : V.int (if r = true then 1 else 0) = V.int (low r : Nat) := by cases r <;> rfl
    have hpb : p ≠ b := ne_of hp hb (fun z => by cases z)
    have tb0 := TB.refl htap
    refine ⟨_, (pss_cons (ps_set (i := 2) nd rfl (Or.inl rfl) (rf_prop (pv 1) T.cl_Bench T.p_Bench_network (ok_Bench_network T r) hr))
      (pss_cons (ps_set (i := 3) nd rfl (Or.inl rfl) (pe_tup (pa_cons (pe_con (pv 2) rfl) (pa_cons (rf_prop (pv 2) (T.cl_N r) (T.p_N_size r) (ok_Network_size T r) hr) (pa_cons (rf_prop (pv 2) (T.cl_N r) (T.p_N_cells r) (ok_Network_cells T r) hr) (pa_cons (rf_prop (pv 2) (T.cl_N r) (T.p_N_outputs r) (ok_Network_outputs T r) hr) pa_nil))))))
      (pss_cons (ps_set (i := 4) nd rfl (Or.inl rfl) (pe_lst pa_nil))
      (pss_cons (ps_for PassesOwn.never rfl (pi_range1 (by rfl) T.b_range (pa_cons (pe_op op_add pe_int (rf_call (ok_law_next T) hr T.g_law_next T.k_law_next (pa_cons (pv 0) (pa_cons pe_int pa_nil)))) pa_nil)) (pg_name (i := 5) nd rfl (Or.inl rfl))
        (pss_cons (ps_set (i := 8) nd rfl (Or.inl rfl) (rf_call (ok_law_wish T) hr T.g_law_wish T.k_law_wish (pa_cons (pv 0) (pa_cons (pv 3) pa_nil))))
      (pss_cons (ps_set (i := 9) nd rfl (Or.inl rfl) (rf_call (ok_law_done T) hr T.g_law_done T.k_law_done (pa_cons (pv 3) (pa_cons (pv 8) pa_nil))))
      (pss_one (ps_if (pt_not (pt_val (pe_callB call_isi (by rfl) T.b_isinstance (by decide +kernel) (pa_cons (pe_ix ix_tup (pv 9) pe_int (fun _ _ => rfl)) (pa_cons (pe_bltn (v := .ty "str") (by rfl) T.b_str (by decide +kernel) rfl) pa_nil))))) (pss_cons (ps_expr (pe_bm PySem.F.plainAttrs_list PySem.F.slot_list_append PySem.F.type_list_append mt_append (pv 4) (pa_cons (pv 8) pa_nil)))
      (pss_one (ps_set (i := 3) nd rfl (Or.inl rfl) (pv 9)))) pss_nil)))))
      (pss_cons (ps_if (pt_cmpR (op_eq0 hr.units) (pv 4) (pe_lst pa_nil) (nomark _)) (pss_one (ps_ret pe_bl)) pss_nil)
      (pss_cons (ps_set (i := 6) nd rfl (Or.inl rfl) (pe_ifExp (pt_cmpR op_eq (pe_callB call_len (by rfl) T.b_len (by decide +kernel) (pa_cons (pv 4) pa_nil)) pe_int (nomark _)) (rf_meth (pv 1) T.cl_Bench T.m_Bench_apply (ok_Bench_apply T r) hr (pa_cons (pe_ix ix_list (pv 4) pe_int (fun _ _ => rfl)) pa_nil)) (rf_meth (pv 1) T.cl_Bench T.m_Bench_apply (ok_Bench_apply T r) hr (pa_cons (pe_ix ix_list (pv 4) pe_int (fun _ _ => rfl)) (pa_cons (pe_ix ix_list (pv 4) pe_int (fun _ _ => rfl)) pa_nil)))))
      (pss_cons (ps_set (i := 7) nd rfl (Or.inl rfl) (rf_prop (pv 1) T.cl_Bench T.p_Bench_network (ok_Bench_network T r) hr))
      (pss_cons (ps_expr (rf_meth0 (pv 1) T.cl_Bench T.m_Bench_undo (ok_Bench_undo T) hr))
      (pss_cons (ps_if (PW.pt (pw_or (pt_cmpR (op_ownNe (T.m_N_eq r) (T.ne_N r) (T.is_N r).cm (ok_Network_eq T r) hr) (rf_prop (pv 1) T.cl_Bench T.p_Bench_network (ok_Bench_network T r) hr) (pv 2) (nomark _)) (pw_or1 (pt_not (pt_val (rf_call (ok_law_told_right T) hr T.g_law_told_right T.k_law_told_right (pa_cons (pv 0) (pa_cons (pv 2) (pa_cons (pv 7) (pa_cons (pv 6) pa_nil)))))))))) (pss_one (ps_ret pe_bl)) pss_nil)
      (pss_cons (ps_expr (rf_meth0 (pv 1) T.cl_Bench T.m_Bench_redo (ok_Bench_redo T) hr))
      (pss_one (ps_ret (pe_cmpR (op_ownEq (T.m_N_eq r) (ok_Network_eq T r) hr) (rf_prop (pv 1) T.cl_Bench T.p_Bench_network (ok_Bench_network T r) hr) (pv 7) (nomark _)))))))))))))), ?_⟩
    -- net
    refine tSeq_cut (fun σ H1 => ∃ x, σ = [some (.ref t), some (.ref b), some (.ref x), none, none, none, none, none, none, none] ∧ Same H H1 ∧ NetAt K r H1 x M) (fun NX fin => ?_) fun σ H1 ⟨x, es, s1, hx1⟩ => ?_
    · exact ⟨_, rfl, b, dx, _, rfl, hb, b, dx, a, p, q1, d, M, rfl, hb, hnet, hM, fun x H1 s1 nx hx => fin _ _ ⟨x, rfl, s1, hx⟩⟩
    subst es
    -- model
    refine tSeq_cut (fun σ H2 => ∃ m, σ = [some (.ref t), some (.ref b), some (.ref x), some (.ref m), none, none, none, none, none, none] ∧ Same H H2 ∧ NetAt K r H2 x M ∧ ModAt K r H2 m M) (fun NX fin => ?_) fun σ H2 ⟨m, es, s2, hx2, hm2⟩ => ?_
    · obtain ⟨dn, jn, en, hn, i1, _⟩ := id hx1
      refine ⟨_, rfl, x, _, dn, _, _, u3, rfl, i1, T.cl_N r, c3, rfl, _, rfl, x, dn, _, rfl, i1, x, M, rfl, hx1, _, rfl, x, dn, _, rfl, i1, x, M, rfl, hx1, fun j hj => ?_⟩
      refine ⟨_, rfl, x, dn, _, rfl, i1, x, M, rfl, hx1, fun e he => ⟨by show 4 ≤ sizeLine; decide, fun m hm => ?_⟩⟩
      have s2 := Same.new (o := .tup [V.int (if r = true then 1 else 0), .int (M.n : Nat), .ref j, .ref e]) hm
      exact fin _ _ ⟨m, rfl, s1.trans s2, NetAt.mono s2 hx1, j, e, isT (by rw [upd_same, er]), CellsT.mono s2 hj, Same.sqt s2 he⟩
    subst es
    -- deeds
    refine tSeq_cut (fun σ H3 => ∃ D, σ = [some (.ref t), some (.ref b), some (.ref x), some (.ref m), some (.ref D), none, none, none, none, none] ∧ Same H H3 ∧ NetAt K r H3 x M ∧ ModAt K r H3 m M ∧ H3 D = some (.lst []) ∧ H D = none) (fun NX fin => ?_) fun σ H3 ⟨D, es, s3, hx3, hm3, hd3, hDH⟩ => ?_
    · exact ⟨by show 0 ≤ sizeLine; decide, fun D hD => fin _ _ ⟨D, rfl, s2.trans (Same.new hD), NetAt.mono (Same.new hD) hx2, ModAt.mono (Same.new hD) hm2, upd_same, s2.free hD⟩⟩
    subst es
    have hDt : D ≠ t := fun z => htap.tn (z ▸ hDH)
    have hDl : D ≠ l := fun z => htap.ln (z ▸ hDH)
    have tb3 := tb0.same s3
    refine tSeq_cut (fun σ H4 => ∃ u3 u5 u8 u9 es ds M2, σ = [some (.ref t), some (.ref b), some (.ref x), u3, some (.ref D), u5, none, none, u8, u9] ∧ TB t l ns (T0 + 21) H H4 ∧ NetAt K r H4 x M ∧ H4 D = some (.lst (es.map V.ref)) ∧ es.length ≤ 2 ∧ Rel2 (Firm K t D H4) es ds ∧ doneL r M ds = some M2 ∧ NetOk r M2 ∧ M2.n = M.n) (fun NX fin => ?_) fun σ H4 ⟨w3, w5, w8, w9, es, ds, M2, eσ, tb4, hx4, hd4, hel4, hf4, hdone, hM2, hn2⟩ => ?_
    · refine ⟨_, rfl, t, l, ns, T0, 2, rfl, tb3.p, by omega, by omega, by omega, fun H4 v s4 x4 tap4 hv => ⟨_, _, rfl, rfl, _, rfl, by omega, by omega, ?_⟩⟩
      have tb4 := tb3.step s4 x4 tap4
      refine for_it (w_range0 (k := 1 + v) (by omega)) (fun i σ H5 => ∃ m u5 u8 u9 es ds Mi, σ = [some (.ref t), some (.ref b), some (.ref x), some (.ref m), some (.ref D), u5, none, none, u8, u9] ∧ TB t l ns (T0 + 1 + 10 * i) H H5 ∧ NetAt K r H5 x M ∧ H5 D = some (.lst (es.map V.ref)) ∧ es.length ≤ i ∧ Rel2 (Firm K t D H5) es ds ∧ doneL r M ds = some Mi ∧ NetOk r Mi ∧ Mi.n = M.n ∧ ModAt K r H5 m Mi)
        ⟨m, none, none, none, [], [], M, rfl, tb4, Ext.net x4 hx3, s4 _ _ (by simpa using hDt) hd3, Nat.zero_le _, Rel2.nil, rfl, hM, rfl, ModAt.ext x4 hm3⟩ (fun _ _ _ _ _ => trivial) (fun i y σ Hy H5 hi ⟨m, u5, u8, u9, es, ds, Mi, eσ, tb5, hx5, hd5, hel5, hf5, hdone5, hMi, hni, hm5⟩ yy => ?_)
        (fun σ H5 ⟨m, u5, u8, u9, es, ds, Mi, eσ, tb5, hx5, hd5, hel5, hf5, hdone5, hMi, hni, hm5⟩ => ?_)
      · obtain ⟨rfl, rfl⟩ := yy
        subst eσ
        rw [List.length_range] at hi
        have htn := tb5.p.tn
        refine tSeq_cut (fun σ H6 => ∃ e de, σ = [some (.ref t), some (.ref b), some (.ref x), some (.ref m), some (.ref D), some (.int (i : Nat)), none, none, some (.ref e), u9] ∧ SameX [t] H5 H6 ∧ Ext H5 H6 ∧ Tap t l ns (T0 + 1 + 10 * i + 10) H6 ∧ Firm K t D H6 e de ∧ DeedFits Mi de) (fun NX2 fin2 => ?_) fun σ H6 ⟨e, de, eσ, s6, x6, tap6, hfe, hfit⟩ => ?_
        · exact ⟨_, rfl, _, rfl, r, t, l, m, ns, T0 + 1 + 10 * i, Mi, rfl, tb5.p, by omega, hm5, hMi, fun H6 e de s6 x6 tap6 hst hfit => fin2 _ _ ⟨e, de, rfl, s6, x6, tap6, fun H7 s7 x7 => hst [t, D] H7 (fun z hz => by
            rcases List.mem_cons.mp hz with c | c
            · rw [c]; exact htn
            · rw [List.mem_singleton.mp c, hd5]; intro z; cases z) s7 x7, hfit⟩⟩
        subst eσ
        have tb6 := tb5.step s6 x6 tap6
        have hd6 := s6 _ _ (by simpa using hDt) hd5
        have s6' : SameX [t, D] H5 H6 := s6.mono fun z hz => by rw [List.mem_singleton.mp hz]; simp
        refine tSeq_cut (fun σ H7 => ∃ tl, σ = [some (.ref t), some (.ref b), some (.ref x), some (.ref m), some (.ref D), some (.int (i : Nat)), none, none, some (.ref e), some (.ref tl)] ∧ Same H6 H7 ∧ LRes K r H7 tl (done r Mi de)) (fun NX2 fin2 => ?_) fun σ H7 ⟨tl, eσ, s7, hres⟩ => ?_
        · exact ⟨_, rfl, _, rfl, r, m, e, Mi, de, rfl, ModAt.ext x6 hm5, hMi, hfe H6 (SameX.refl _) (Ext.refl _), hfit, fun tl H7 s7 hres => fin2 _ _ ⟨tl, rfl, s7, hres⟩⟩
        subst eσ
        have tb7 := tb6.same s7
        have hd7 := s7 _ _ hd6
        have x57 := x6.trans (Same.ext s7)
        have s57 : SameX [t, D] H5 H7 := s6'.trans (SameX.of s7)
        have hf7 := hf5.imp fun _ _ z => Firm.go s57 x57 z
        have hfe7 := Firm.go (SameX.of s7) (Same.ext s7) hfe
        cases hdn : done r Mi de with
        | none =>
          rw [hdn] at hres
          obtain ⟨wd, rest, hw⟩ := hres
          refine ⟨_, rfl, tl, _, 0, _, rfl, rfl, hw, atI_nat (i := 0) rfl, _, _, _, _, true, rfl, .ty "str", .base (.str _), kit_ty (by decide +kernel), true, rfl, iteF ?_⟩
          exact ⟨m, _, _, _, es, ds, Mi, rfl, tb7.more (by omega), Ext.net x57 hx5, hd7, by omega, hf7, hdone5, hMi, hni, ModAt.ext x57 hm5⟩
        | some M1 =>
          rw [hdn] at hres
          obtain ⟨j1, e1, hw, hrest⟩ := id hres
          obtain ⟨hM1, hn1⟩ := done_ok hMi hdn
          refine ⟨_, rfl, tl, _, 0, _, rfl, rfl, hw, atI_nat (i := 0) rfl, _, _, _, _, false, rfl, .ty "str", .base (.int _), kit_ty (by decide +kernel), false, rfl, iteT ?_⟩
          refine ⟨_, rfl, .inl ⟨rfl, _, isL hd7⟩, _, rfl, D, _, _, rfl, rfl, hd7, by rw [List.length_map]; exact sz8 (by omega), ?_⟩
          have xu : Ext H7 (upd H7 D (.lst (es.map V.ref ++ [.ref e]))) := Ext.lst hd7
          have su : SameX [t, D] H7 (upd H7 D (.lst (es.map V.ref ++ [.ref e]))) := (SameX.refl _).at_ (by simp)
          refine ⟨_, rfl, tl, _, _, _, es ++ [e], ds ++ [de], M1, rfl, (tb7.lst hDH hd7 hDt hDl).more (by omega), Ext.net (x57.trans xu) hx5, by rw [upd_same, List.map_append]; rfl, by rw [List.length_append]; simp; omega, (hf7.imp fun _ _ z => Firm.go su xu z).snoc (Firm.go su xu hfe7), doneL_snoc hdone5 hdn, hM1, by omega, ModAt.ext xu hres⟩
      · subst eσ
        rw [List.length_range] at tb5 hel5
        exact fin _ _ ⟨_, _, _, _, es, ds, Mi, rfl, tb5.more (by omega), hx5, hd5, by omega, hf5, hdone5, hMi, hni⟩
    subst eσ
    have hel : es.length = ds.length := hf4.1
    -- no deeds
    refine tSeq_cut (fun σ H5 => es ≠ [] ∧ Same H4 H5 ∧ σ = [some (.ref t), some (.ref b), some (.ref x), w3, some (.ref D), w5, none, none, w8, w9]) (fun NX fin => ?_) fun σ H5 ⟨hne, s5, eσ⟩ => ?_
    · refine ⟨_, rfl, by show 0 ≤ sizeLine; decide, fun p0 hp0 => ?_⟩
      have s5 := Same.new (o := .lst []) hp0
      have e5 : upd H4 p0 (.lst []) p0 = some (.lst []) := upd_same
      generalize upd H4 p0 (.lst []) = H5 at s5 e5 ⊢
      refine ⟨D, p0, _, rfl, rfl, .inl ⟨isL (s5 _ _ hd4), isL e5⟩, _, rfl, ?_⟩
      by_cases hc : es = []
      · rw [show (es.map V.ref).isEmpty = true by rw [hc]; rfl]
        refine iteT ?_
        have tb5 := tb4.same s5
        have sx : SameX [t, b, p] H H5 := tb5.x.mono fun z hz => by rw [List.mem_singleton.mp hz]; simp
        exact q _ ⟨a, q1, ps, M, tb5.x _ _ (by simpa using Ne.symm htb) hb, Ext.net tb5.e hnet, hM, rfl, tb5.x _ _ (by simpa using Ne.symm htp) hp, by omega, sx, tb5.e, tb5.p.more (by omega)⟩
      · rw [show (es.map V.ref).isEmpty = false by cases es with | nil => exact absurd rfl hc | cons _ _ => rfl]
        exact iteF (fin _ _ ⟨hc, s5, rfl⟩)
    subst eσ
    have tb5 := tb4.same s5
    have hd5 := s5 _ _ hd4
    have hx5 := NetAt.mono s5 hx4
    have hdeeds : Rel2 (DeedAt K H5) es ds := hf4.imp fun _ _ z => z H5 (SameX.of s5) (Same.ext s5)
    have hb5 : BAt K H5 b dx a p q1 d := tb5.x _ _ (by simpa using Ne.symm htb) hb
    have hp5 := tb5.x _ _ (by simpa using Ne.symm htp) hp
    have hnet5 := Ext.net tb5.e hnet
    have fu : ∀ z ∈ [b, p], ∀ o, H5 z = some o → fixd o = false := fun z hz o ho => by
      rcases List.mem_cons.mp hz with c | c
      · rw [c, hb5] at ho; cases ho; exact unf_bf
      · rw [List.mem_singleton.mp c, hp5] at ho; cases ho; rfl
    -- the step
    refine tSeq_cut (fun σ H6 => ∃ tt c q' vp ev, σ = [some (.ref t), some (.ref b), some (.ref x), w3, some (.ref D), w5, some (.ref tt), none, w8, w9] ∧ Settled K r H5 H6 b dx a p d c ps ev M M2 q' vp tt) (fun NX fin => ?_) fun σ H6 ⟨tt, c, q', vp, ev, eσ, s6, hb6, hq6, hq5n, hp6, hv6, htt6, hna6, hnc6⟩ => ?_
    · refine ⟨_, rfl, _, es.length, rfl, .inl ⟨_, isL hd5, by rw [List.length_map]⟩, rfl, _, rfl, ?_⟩
      rw [dInt]
      match es, ds, hne, hel, hel4, hd5, hdeeds, hdone with
      | [], _, h, _, _, _, _, _ => exact absurd rfl h
      | [e1], [d1], _, _, _, hd5, hdeeds, hdone =>
        rw [decide_eq_true (by rfl)]
        refine iteT ?_
        exact ⟨_, rfl, b, dx, _, rfl, hb5, rfl, _, rfl, D, _, 0, _, rfl, rfl, isL hd5, atI_nat (i := 0) rfl, b, dx, a, p, q1, d, ps, M, M2, [e1], [d1], rfl, hb5, hnet5, hM, hdeeds, by simp, hdone, hp5, by omega, fun H6 q' vp tt c ev hset _ => fin _ _ ⟨tt, c, q', vp, ev, rfl, hset⟩⟩
      | [e1, e2], [d1, d2], _, _, _, hd5, hdeeds, hdone =>
        rw [decide_eq_false (by simp)]
        refine iteF ?_
        exact ⟨_, rfl, b, dx, _, rfl, hb5, rfl, _, rfl, D, _, 0, _, rfl, rfl, isL hd5, atI_nat (i := 0) rfl, _, rfl, D, _, 1, _, rfl, rfl, isL hd5, atI_nat (i := 1) rfl, b, dx, a, p, q1, d, ps, M, M2, [e1, e2], [d1, d2], rfl, hb5, hnet5, hM, hdeeds, by simp, hdone, hp5, by omega, fun H6 q' vp tt c ev hset _ => fin _ _ ⟨tt, c, q', vp, ev, rfl, hset⟩⟩
      | _ :: _ :: _ :: _, _, _, _, h, _, _, _ => simp at h
    subst eσ
    have x56 : Ext H5 H6 := s6.ext fu
    have tap6 : Tap t l ns (T0 + 21) H6 := tb5.p.x s6 (by simp; exact ⟨htb, htp⟩) (by simp; exact ⟨hlb, hlp⟩)
    have hqt : q' ≠ t := fun z => tb5.p.tn (z ▸ hq5n)
    have hql : q' ≠ l := fun z => tb5.p.ln (z ▸ hq5n)
    have hqH : H q' = none := by
      cases z : H q' with
      | none => rfl
      | some o => rw [tb5.x _ _ (by simpa using hqt) z] at hq5n; cases hq5n
    have hqp : p ≠ q' := fun z => by rw [← z, hp5] at hq5n; cases hq5n
    have S6 : SameX [t, b, p] H H6 := SameX.more (tb5.x.mono fun z hz => by rw [List.mem_singleton.mp hz]; simp) s6 fun z hz => .inl (by simp at hz ⊢; exact .inr hz)
    have X6 := tb5.e.trans x56
    have hx6 := Ext.net x56 hx5
    -- behind
    refine tSeq_cut (fun σ H7 => ∃ y, σ = [some (.ref t), some (.ref b), some (.ref x), w3, some (.ref D), w5, some (.ref tt), some (.ref y), w8, w9] ∧ Same H6 H7 ∧ NetAt K r H7 y M2) (fun NX fin => ?_) fun σ H7 ⟨y, eσ, s7, hy7⟩ => ?_
    · exact ⟨_, rfl, b, dx, _, rfl, hb6, b, dx, c, p, q', d, M2, rfl, hb6, hnc6, hM2, fun y H7 s7 ny hy => fin _ _ ⟨y, rfl, s7, hy⟩⟩
    subst eσ
    -- undo
    refine tSeq_cut (fun σ H8 => ∃ u, σ = [some (.ref t), some (.ref b), some (.ref x), w3, some (.ref D), w5, some (.ref tt), some (.ref y), w8, w9] ∧ SameX [b, p, q'] H7 H8 ∧ Ext H7 H8 ∧ BAt K H8 b dx a p q' d ∧ H8 p = some (.lst ps) ∧ H8 q' = some (.lst [.ref u]) ∧ H8 u = some (.tup [ev, .ref c])) (fun NX fin => ?_) fun σ H8 ⟨u, eσ, s8, x8, hb8, hp8, hq8, hu8⟩ => ?_
    · exact ⟨_, rfl, b, dx, _, rfl, s7 _ _ hb6, rfl, b, dx, c, p, q', d, a, vp, ps, [], ev, rfl, s7 _ _ hb6, s7 _ _ hp6, isT (s7 _ _ hv6), s7 _ _ hq6, hqp, by omega, by simp, fun H8 u s8 x8 hb8 hp8 hq8 hu8 => fin _ _ ⟨u, rfl, s8, x8, hb8, hp8, hq8, hu8⟩⟩
    subst eσ
    have tap8 : Tap t l ns (T0 + 21) H8 := (tap6.mono s7).x s8 (by simp; exact ⟨htb, htp, Ne.symm hqt⟩) (by simp; exact ⟨hlb, hlp, Ne.symm hql⟩)
    have x68 := (Same.ext s7).trans x8
    have S8 : SameX [t, b, p] H H8 := SameX.more (S6.trans (SameX.of s7)) s8 fun z hz => by
      rcases List.mem_cons.mp hz with c | c
      · rw [c]; simp
      · rcases List.mem_cons.mp c with c | c
        · rw [c]; simp
        · rw [List.mem_singleton.mp c]; exact .inr hqH
    -- the test
    refine tSeq_cut (fun σ H10 => σ = [some (.ref t), some (.ref b), some (.ref x), w3, some (.ref D), w5, some (.ref tt), some (.ref y), w8, w9] ∧ SameX [t] H8 H10 ∧ Ext H8 H10 ∧ Tap t l ns (T0 + 120) H10) (fun NX fin => ?_) fun σ H10 ⟨eσ, s10, x10, tap10⟩ => ?_
    · refine ⟨_, rfl, b, dx, _, rfl, hb8, b, dx, a, p, q', d, M, rfl, hb8, Ext.net x68 hna6, hM, fun z H9 s9 nz hz => ?_⟩
      have hx9 := Ext.net (x68.trans (Same.ext s9)) hx6
      obtain ⟨dz, _, _, _, iz, _⟩ := id hz
      obtain ⟨dx2, _, _, _, ix, _⟩ := id hx9
      refine ⟨_, rfl, z, dz, _, x, dx2, _, rfl, rfl, iz, ix, z, x, M, M, rfl, hz, hx9, _, rfl, _, rfl, ?_⟩
      rw [decide_eq_true ⟨rfl, rfl, rfl⟩]
      refine iteF ?_
      refine ⟨_, rfl, _, rfl, _, rfl, _, rfl, r, t, l, x, y, tt, ns, T0 + 21, M, M2, rfl, tap8.mono s9, by omega, hx9, hM, Ext.net (x8.trans (Same.ext s9)) hy7, hM2, hn2, hn9, Ext.sqt (x68.trans (Same.ext s9)) htt6, fun H10 s10 x10 tap10 => ?_⟩
      exact ⟨_, rfl, iteF (fin _ _ ⟨rfl, (SameX.of s9).trans s10, (Same.ext s9).trans x10, tap10.more (by omega)⟩)⟩
    subst eσ
    have hqt' : q' ∉ [t] := by simpa using hqt
    have hbt' : b ∉ [t] := by simpa using Ne.symm htb
    have hpt' : p ∉ [t] := by simpa using Ne.symm htp
    have hb10 : BAt K H10 b dx a p q' d := s10 _ _ hbt' hb8
    have hp10 := s10 _ _ hpt' hp8
    have hq10 := s10 _ _ hqt' hq8
    have hu10 := x10 _ _ hu8 rfl
    have x610 := x68.trans x10
    have S10 : SameX [t, b, p] H H10 := SameX.more S8 s10 fun z hz => .inl (by rw [List.mem_singleton.mp hz]; simp)
    -- redo
    refine tSeq_cut (fun σ H11 => ∃ u', σ = [some (.ref t), some (.ref b), some (.ref x), w3, some (.ref D), w5, some (.ref tt), some (.ref y), w8, w9] ∧ SameX [b, p, q'] H10 H11 ∧ Ext H10 H11 ∧ BAt K H11 b dx c p q' d ∧ H11 p = some (.lst (ps ++ [.ref u']))) (fun NX fin => ?_) fun σ H11 ⟨u', eσ, s11, x11, hb11, hp11⟩ => ?_
    · exact ⟨_, rfl, b, dx, _, rfl, hb10, rfl, b, dx, a, p, q', d, c, u, ps, [], ev, rfl, hb10, hq10, isT hu10, hp10, hqp, by omega, by simp, fun H11 u' s11 x11 hb11 hq11 hp11 hu11 => fin _ _ ⟨u', rfl, s11, x11, hb11, hp11⟩⟩
    subst eσ
    have x611 := x610.trans x11
    refine ⟨_, rfl, b, dx, _, rfl, hb11, b, dx, c, p, q', d, M2, rfl, hb11, Ext.net x611 hnc6, hM2, fun z H12 s12 nz hz => ?_⟩
    have x711 := (x8.trans x10).trans (x11.trans (Same.ext s12))
    have hy12 := Ext.net x711 hy7
    obtain ⟨dz, _, _, _, iz, _⟩ := id hz
    obtain ⟨dy, _, _, _, iy, _⟩ := id hy12
    refine ⟨_, rfl, z, dz, _, y, dy, _, rfl, rfl, iz, iy, z, y, M2, M2, rfl, hz, hy12, ?_⟩
    rw [decide_eq_true ⟨rfl, rfl, rfl⟩]
    have S12 : SameX [t, b, p] H H12 := (SameX.more S10 s11 fun z hz => by
      rcases List.mem_cons.mp hz with c | c
      · rw [c]; simp
      · rcases List.mem_cons.mp c with c | c
        · rw [c]; simp
        · rw [List.mem_singleton.mp c]; exact .inr hqH).trans (SameX.of s12)
    have tap12 : Tap t l ns (T0 + 120) H12 := (tap10.x s11 (by simp; exact ⟨htb, htp, Ne.symm hqt⟩) (by simp; exact ⟨hlb, hlp, Ne.symm hql⟩)).mono s12
    exact q _ ⟨c, q', ps ++ [.ref u'], M2, s12 _ _ hb11, Ext.net (x611.trans (Same.ext s12)) hnc6, hM2, hn2, s12 _ _ hp11, by simp, S12, X6.trans (x611.trans (Same.ext s12)), tap12⟩
end
end Cp
/-! The law. -/
namespace Cp
open PySem PySem.Spec PyProof.Rows L2
theorem Same.moreX {H H1 H2 : Hp} {us : List Addr} (h1 : Same H H1) (h2 : SameX us H1 H2) (hu : ∀ x ∈ us, H x = Option.none) : Same H H2 := fun a o ha =>
  h2 a o (fun z => by rw [hu a z] at ha; cases ha) (h1 a o ha)
section
variable {P : Program} {w : World} {K : PySem.W.Frag} {mg : Str → Option Value} {base : Heap}
theorem FnR.any {CX : CXT} {k : Nat} {f : Addr} {sp : Bool → Sp} (h : ∀ r, FnR P w K mg base CX k f (sp r)) : FnR P w K mg base CX k f (fun vs H Q E => ∃ r, sp r vs H Q E) :=
  fun A outer s H us vs Q E hr e0 rv ⟨r, hs⟩ => h r A outer s H us vs Q E hr e0 rv hs
theorem opR_any {X : Cx} {o : Value → Value → Sem Value} {R : Bool → R2} (h : ∀ r, OpR X o (R r)) : OpR X o (fun x y H Q => ∃ r, R r x y H Q) :=
  fun pins s σ H x y v u Q I rx ry ⟨r, hq⟩ => h r pins s σ H x y v u Q I rx ry hq
def spLaw (K : PySem.W.Frag) : Sp := fun vs H Q _ => ∃ (s : Addr) (ns : List Int), vs = [.ref s] ∧ SqL K H s (ns.map V.int) ∧ ∀ H', Same H H' → Q (.bl true) H'
theorem sc_law : FnScope ["_law_script", "_law_tap_here", "_law_turn", "_law_model", "_law_bench", "_law_first", "_law_k", "_law_last", "_law_told"] ["_law_script"] (defScope s_law) := ⟨rfl, rfl, rfl, by decide +kernel, rfl, by decide +kernel, by decide +kernel⟩
theorem mkG {x qual : Str} {params : Arguments} {body : List Stmt} {scope : Scope} {kws : List (Str × V)} {f : Addr} {fd : FuncData} {N ps : List Str} {k : Nat} {sp : Sp}
    (F : FunD K x qual params body scope [] kws f fd) (S : FnScope N ps scope) (len : ∀ vs H Q E, sp vs H Q E → vs.length = ps.length)
    (hbody : ∀ (cdv : Value) (A : Around) (outer : List Env) (s : Shared) (H : Hp) (vs : List V) (Q : VK) (E : XK), Room k (A.deeper (envOfC qual scope s.heap.objs.size f cdv)) → sp vs H Q E →
      ∃ t, PSs (cxOf CX0 P w K mg base N qual scope f cdv A outer s H E).nox body t ∧ t { nx := fun _ H' => Q .non H', rt := Q } (start N vs) H) : FnOk P w K mg base CX0 (k + 1) f fd ps sp :=
  F.ok S len fun cdv A outer s H vs Q E hr h => by
    obtain ⟨t, h1, h2⟩ := hbody cdv A outer s H vs Q E hr h
    exact ⟨t, h1.nox, h2⟩
theorem ok_law {fd : FuncData} (T : Txt w K mg) (F : FunD K "law" "law" (defArgs s_law) (defBody s_law) (defScope s_law) [] [] (gA "law" K) fd) : FnOk P w K mg base CX0 12 (gA "law" K) fd ["_law_script"] (spLaw K) := by
  refine mkG F sc_law (fun vs H Q E h => ?_) (fun cdv A outer s H vs Q E hr h => ?_)
  · obtain ⟨sc, ns, rfl, _⟩ := h
    rfl
  · obtain ⟨sc, ns, rfl, hsc, q⟩ := h
    have nd := sc_law.nd
    refine ⟨_, (pss_cons (ps_set (i := 1) nd rfl (Or.inl rfl) (rf_call (ok_law_tap T) hr T.g_law_tap T.k_law_tap (pa_cons (pv 0) pa_nil)))
      (pss_cons (ps_for PassesOwn.never rfl (pi_range1 (by rfl) T.b_range (pa_cons pe_int pa_nil)) (pg_name (i := 2) nd rfl (Or.inl rfl))
        (pss_cons (ps_set (i := 3) nd rfl (Or.inl rfl) (rf_call (ok_law_begun T) hr T.g_law_begun T.k_law_begun (pa_cons (pv 1) pa_nil)))
      (pss_cons (ps_set (i := 4) nd rfl (Or.inl rfl) (rf_make T.mk_Bench (FnR.any (ok_Bench_init T)) hr T.g_Bench (pa_cons (rf_call (ok_law_net T) hr T.g_law_net T.k_law_net (pa_cons (pv 3) pa_nil)) pa_nil)))
      (pss_cons (ps_expr (rf_meth (pv 4) T.cl_Bench T.m_Bench_mark (ok_Bench_mark T) hr (pa_cons pe_str pa_nil)))
      (pss_cons (ps_set (i := 5) nd rfl (Or.inl rfl) (rf_prop (pv 4) T.cl_Bench T.p_Bench_network (FnR.any (ok_Bench_network T)) hr))
      (pss_cons (ps_for PassesOwn.never rfl (pi_range1 (by rfl) T.b_range (pa_cons (rf_call (ok_law_next T) hr T.g_law_next T.k_law_next (pa_cons (pv 1) (pa_cons pe_int pa_nil))) pa_nil)) (pg_name (i := 6) nd rfl (Or.inl rfl))
        (pss_one (ps_if (pt_not (pt_val (rf_call (ok_law_step_right T) hr T.g_law_step_right T.k_law_step_right (pa_cons (pv 1) (pa_cons (pv 4) pa_nil))))) (pss_one (ps_ret pe_bl)) pss_nil)))
      (pss_cons (ps_set (i := 7) nd rfl (Or.inl rfl) (rf_prop (pv 4) T.cl_Bench T.p_Bench_network (FnR.any (ok_Bench_network T)) hr))
      (pss_cons (ps_set (i := 8) nd rfl (Or.inl rfl) (rf_meth (pv 4) T.cl_Bench T.m_Bench_back_to (FnR.any (ok_Bench_back_to T)) hr (pa_cons pe_str pa_nil)))
      (pss_cons (ps_if (PW.pt (pw_or (pt_cmpR (opR_any fun r => op_ownNe (T.m_N_eq r) (T.ne_N r) (T.is_N r).cm (ok_Network_eq T r) hr) (rf_prop (pv 4) T.cl_Bench T.p_Bench_network (FnR.any (ok_Bench_network T)) hr) (pv 5) (nomark _)) (pw_or1 (pt_not (pt_val (rf_call (ok_law_told_right T) hr T.g_law_told_right T.k_law_told_right (pa_cons (pv 1) (pa_cons (pv 7) (pa_cons (pv 5) (pa_cons (pv 8) pa_nil)))))))))) (pss_one (ps_ret pe_bl)) pss_nil)
      (pss_cons (ps_expr (rf_meth0 (pv 4) T.cl_Bench T.m_Bench_undo (ok_Bench_undo T) hr))
      (pss_one (ps_if (pt_cmpR (opR_any fun r => op_ownNe (T.m_N_eq r) (T.ne_N r) (T.is_N r).cm (ok_Network_eq T r) hr) (rf_prop (pv 4) T.cl_Bench T.p_Bench_network (FnR.any (ok_Bench_network T)) hr) (pv 7) (nomark _)) (pss_one (ps_ret pe_bl)) pss_nil))))))))))))
      (pss_one (ps_ret pe_bl)))), ?_⟩
    refine tSeq_cut (fun σ H1 => ∃ t l, σ = [some (.ref sc), some (.ref t), none, none, none, none, none, none, none] ∧ Same H H1 ∧ H t = none ∧ H l = none ∧ Tap t l (ns.take 63) 0 H1) (fun NX fin => ?_) fun σ H1 ⟨t, l, es, s1, htH, hlH, tap1⟩ => ?_
    · exact ⟨_, rfl, sc, ns, rfl, hsc, fun H1 t l s1 ht hl tap => fin _ _ ⟨t, l, rfl, s1, ht, hl, tap⟩⟩
    subst es
    generalize ns.take 63 = ms at tap1
    refine tSeq_cut (fun σ H2 => Same H H2) (fun NX fin => ?_) fun σ H2 s2 => q H2 s2
    refine ⟨_, rfl, by decide, by decide, ?_⟩
    refine for_it (w_range0 (k := 3) rfl) (fun i σ H2 => ∃ u2 u3 u4 u5 u6 u7 u8, σ = [some (.ref sc), some (.ref t), u2, u3, u4, u5, u6, u7, u8] ∧ Same H H2 ∧ Tap t l ms (1200 * i) H2)
      ⟨none, none, none, none, none, none, none, rfl, s1, tap1⟩ (fun _ _ _ _ _ => trivial) (fun i x σ Hy H2 hi ⟨u2, u3, u4, u5, u6, u7, u8, es, s2, tap2⟩ yy => ?_) (fun σ H2 ⟨u2, u3, u4, u5, u6, u7, u8, es, s2, tap2⟩ => fin _ _ s2)
    obtain ⟨rfl, rfl⟩ := yy
    subst es
    rw [List.length_range] at hi
    -- the model
    refine tSeq_cut (fun σ H3 => ∃ r m M, σ = [some (.ref sc), some (.ref t), some (.int (i : Nat)), some (.ref m), u4, u5, u6, u7, u8] ∧ Same H H3 ∧ Tap t l ms (1200 * i + 40) H3 ∧ ModAt K r H3 m M ∧ NetOk r M ∧ M.n ≤ 9) (fun NX2 fin2 => ?_) fun σ H3 ⟨r, m, M, es, s3, tap3, hm3, hM, hn9⟩ => ?_
    · exact ⟨_, rfl, t, l, ms, 1200 * i, rfl, tap2, by omega, fun H3 r m M s3 x3 tap3 hm hM hn => fin2 _ _ ⟨r, m, M, rfl, Same.moreX s2 s3 fun z hz => by rw [List.mem_singleton.mp hz]; exact htH, tap3, hm, hM, hn⟩⟩
    subst es
    -- the bench
    refine tSeq_cut (fun σ H4 => ∃ b dx a p q1 d, σ = [some (.ref sc), some (.ref t), some (.int (i : Nat)), some (.ref m), some (.ref b), u5, u6, u7, u8] ∧ Same H3 H4 ∧ BAt K H4 b dx a p q1 d ∧ NetAt K r H4 a M ∧ H4 p = some (.lst []) ∧ H4 d = some (.dK []) ∧ H3 b = none ∧ H3 p = none ∧ H3 d = none) (fun NX2 fin2 => ?_) fun σ H4 ⟨b, dx, a, p, q1, d, es, s4, hb4, ha4, hp4, hd4, hbn, hpn, hdn⟩ => ?_
    · refine ⟨_, rfl, r, m, M, rfl, hm3, hM, fun x0 H4 s4 n4 hx4 => ?_⟩
      intro b dx n1 n2 n3
      have sb : Same H4 (upd (upd H4 dx (.own b)) b (.ins (gA "Bench" K) dx [])) := (Same.new n2).trans (Same.new (by rw [upd_ne (Ne.symm n3)]; exact n1))
      refine ⟨r, b, dx, x0, M, rfl, upd_same, NetAt.mono sb hx4, hM, fun H5 a p q1 d s5 hb5 ha5 hp5 hq5 hpq hd5 np nq nd => ⟨rfl, fin2 _ _ ⟨b, dx, a, p, q1, d, rfl, ?_, hb5, ha5, hp5, hd5, s4.free n1, s4.free (sb.free np), s4.free (sb.free nd)⟩⟩⟩
      refine s4.trans fun c o hc => ?_
      have hcb : c ≠ b := fun z => by rw [z, n1] at hc; cases hc
      exact s5 c o (by simpa using hcb) (sb c o hc)
    subst es
    have tap4 := tap3.mono s4
    have sH4 := s3.trans s4
    have htb : t ≠ b := fun z => tap3.tn (z ▸ hbn)
    have htp : t ≠ p := fun z => tap3.tn (z ▸ hpn)
    have htd : t ≠ d := fun z => tap3.tn (z ▸ hdn)
    have hlb : l ≠ b := fun z => tap3.ln (z ▸ hbn)
    have hlp : l ≠ p := fun z => tap3.ln (z ▸ hpn)
    have hld : l ≠ d := fun z => tap3.ln (z ▸ hdn)
    have hbH := s3.free hbn
    have hpH := s3.free hpn
    have hdH := s3.free hdn
    have hdb : d ≠ b := ne_of hd4 hb4 (fun z => by cases z)
    have hdp : d ≠ p := ne_of hd4 hp4 (fun z => by cases z)
    -- the mark
    refine tSeq_cut (fun σ H5 => σ = [some (.ref sc), some (.ref t), some (.int (i : Nat)), some (.ref m), some (.ref b), u5, u6, u7, u8] ∧ Same H H5 ∧ Tap t l ms (1200 * i + 40) H5 ∧ BAt K H5 b dx a p q1 d ∧ NetAt K r H5 a M ∧ H5 p = some (.lst []) ∧ H5 d = some (.dK [(.inr "first", .ref a)])) (fun NX2 fin2 => ?_) fun σ H5 ⟨es, s5, tap5, hb5, ha5, hp5, hd5⟩ => ?_
    · refine ⟨_, rfl, b, dx, _, rfl, hb4, rfl, b, dx, a, p, q1, d, [], "first", rfl, hb4, hd4, by simp, ?_⟩
      refine fin2 _ _ ⟨rfl, Same.mut sH4 hdH, tap4.off htd hld, by unfold BAt; rw [upd_ne (Ne.symm hdb)]; exact hb4, Ext.net (Ext.dK hd4) ha4, by rw [upd_ne (Ne.symm hdp)]; exact hp4, upd_same⟩
    subst es
    -- first
    refine tSeq_cut (fun σ H6 => ∃ f, σ = [some (.ref sc), some (.ref t), some (.int (i : Nat)), some (.ref m), some (.ref b), some (.ref f), u6, u7, u8] ∧ Same H5 H6 ∧ NetAt K r H6 f M) (fun NX2 fin2 => ?_) fun σ H6 ⟨f, es, s6, hf6⟩ => ?_
    · exact ⟨_, rfl, b, dx, _, rfl, hb5, r, b, dx, a, p, q1, d, M, rfl, hb5, ha5, hM, fun f H6 s6 nf hf => fin2 _ _ ⟨f, rfl, s6, hf⟩⟩
    subst es
    have sH6 := s5.trans s6
    have tap6 := tap5.mono s6
    have hb6 : BAt K H6 b dx a p q1 d := s6 _ _ hb5
    have ha6 := NetAt.mono s6 ha5
    have hp6 := s6 _ _ hp5
    have hd6 := s6 _ _ hd5
    have fu3 : ∀ {Hx : Hp} {ax qx : Addr} {px : List V}, BAt K Hx b dx ax p qx d → Hx p = some (.lst px) → ∀ z ∈ [b, p], ∀ o, Hx z = some o → fixd o = false := fun {Hx ax qx px} h1 h2 z hz o ho => by
      rcases List.mem_cons.mp hz with c | c
      · rw [c, h1] at ho; cases ho; exact unf_bf
      · rw [List.mem_singleton.mp c, h2] at ho; cases ho; rfl
    -- the steps
    refine tSeq_cut (fun σ H7 => ∃ u6, σ = [some (.ref sc), some (.ref t), some (.int (i : Nat)), some (.ref m), some (.ref b), some (.ref f), u6, u7, u8] ∧ StepPost K r H6 H7 t l ms (1200 * i + 1010) b dx p d M.n 10) (fun NX2 fin2 => ?_) fun σ H7 ⟨u6, es, a7, q7, ps7, M7, hb7, ha7, hM7, hn7, hp7, hl7, s7, x7, tap7⟩ => ?_
    · refine ⟨_, rfl, t, l, ms, 1200 * i + 40, 9, rfl, tap6, by omega, by omega, by omega, fun H7 v s7 x7 tap7 hv => ⟨_, rfl, by omega, by omega, ?_⟩⟩
      refine for_it (w_range0 (k := v) (by omega)) (fun k σ H8 => ∃ u6, σ = [some (.ref sc), some (.ref t), some (.int (i : Nat)), some (.ref m), some (.ref b), some (.ref f), u6, u7, u8] ∧ StepPost K r H6 H8 t l ms (1200 * i + 41 + 120 * k) b dx p d M.n k)
        ⟨u6, rfl, a, q1, [], M, s7 _ _ (by simpa using Ne.symm htb) hb6, Ext.net x7 ha6, hM, rfl, s7 _ _ (by simpa using Ne.symm htp) hp6, Nat.le_refl _, s7.mono (fun z hz => by rw [List.mem_singleton.mp hz]; simp), x7, tap7⟩ (fun _ _ _ _ _ => trivial)
        (fun k x σ Hy H8 hk ⟨u6, es, a8, q8, ps8, M8, hb8, ha8, hM8, hn8, hp8, hl8, s8, x8, tap8⟩ yy => ?_) (fun σ H8 ⟨u6, es, a8, q8, ps8, M8, hb8, ha8, hM8, hn8, hp8, hl8, s8, x8, tap8⟩ => fin2 _ _ ⟨u6, es, a8, q8, ps8, M8, hb8, ha8, hM8, hn8, hp8, by rw [List.length_range] at hl8; omega, s8, x8, tap8.more (by rw [List.length_range]; omega)⟩)
      obtain ⟨rfl, rfl⟩ := yy
      subst es
      rw [List.length_range] at hk
      refine ⟨_, rfl, _, rfl, r, t, l, b, dx, a8, p, q8, d, ms, 1200 * i + 41 + 120 * k, M8, ps8, rfl, tap8, by omega, hb8, ha8, hM8, by omega, hp8, by omega, htb, htp, hlb, hlp, fun H9 ⟨a9, q9, ps9, M9, hb9, ha9, hM9, hn9', hp9, hl9, s9, x9, tap9⟩ => ⟨_, rfl, iteF ?_⟩⟩
      exact ⟨_, rfl, a9, q9, ps9, M9, hb9, ha9, hM9, by omega, hp9, by omega, s8.trans s9, x8.trans x9, tap9.more (by omega)⟩
    subst es
    have hd7 := s7 d _ (by simp; exact ⟨Ne.symm htd, hdb, hdp⟩) hd6
    have sH7 : Same H H7 := Same.moreX sH6 s7 fun z hz => by
      rcases List.mem_cons.mp hz with c | c
      · rw [c]; exact htH
      · rcases List.mem_cons.mp c with c | c
        · rw [c]; exact hbH
        · rw [List.mem_singleton.mp c]; exact hpH
    have ha67 := Ext.net x7 ha6
    have hf7 := Ext.net x7 hf6
    -- last
    refine tSeq_cut (fun σ H8 => ∃ y, σ = [some (.ref sc), some (.ref t), some (.int (i : Nat)), some (.ref m), some (.ref b), some (.ref f), u6, some (.ref y), u8] ∧ Same H7 H8 ∧ NetAt K r H8 y M7) (fun NX2 fin2 => ?_) fun σ H8 ⟨y, es, s8, hy8⟩ => ?_
    · exact ⟨_, rfl, b, dx, _, rfl, hb7, r, b, dx, a7, p, q7, d, M7, rfl, hb7, ha7, hM7, fun y H8 s8 ny hy => fin2 _ _ ⟨y, rfl, s8, hy⟩⟩
    subst es
    have tap8 := tap7.mono s8
    have hb8 : BAt K H8 b dx a7 p q7 d := s8 _ _ hb7
    have hp8 := s8 _ _ hp7
    -- back
    refine tSeq_cut (fun σ H9 => ∃ tt q9 vp ev, σ = [some (.ref sc), some (.ref t), some (.int (i : Nat)), some (.ref m), some (.ref b), some (.ref f), u6, some (.ref y), some (.ref tt)] ∧ Settled K r H8 H9 b dx a7 p d a ps7 ev M7 M q9 vp tt) (fun NX2 fin2 => ?_) fun σ H9 ⟨tt, q9, vp, ev, es, s9, hb9, hq9, hq8n, hp9, hv9, htt9, hna9, hnc9⟩ => ?_
    · exact ⟨_, rfl, b, dx, _, rfl, hb8, rfl, r, b, dx, a7, p, q7, d, a, ps7, M7, M, _, "first", rfl, hb8, NetAt.mono s8 ha7, hM7, s8 _ _ hd7, rfl, NetAt.mono s8 ha67, hM, hn7.symm, hp8, by omega, fun H9 q9 vp tt ev hset => fin2 _ _ ⟨tt, q9, vp, ev, rfl, hset⟩⟩
    subst es
    have x9 : Ext H8 H9 := s9.ext (fu3 hb8 hp8)
    have sH8 := sH7.trans s8
    have sH9 : Same H H9 := Same.moreX sH8 s9 fun z hz => by
      rcases List.mem_cons.mp hz with c | c
      · rw [c]; exact hbH
      · rw [List.mem_singleton.mp c]; exact hpH
    have tap9 : Tap t l ms (1200 * i + 1010) H9 := tap8.x s9 (by simp; exact ⟨htb, htp⟩) (by simp; exact ⟨hlb, hlp⟩)
    have hqH : H q9 = none := sH8.free hq8n
    have hqt : q9 ≠ t := fun z => tap8.tn (z ▸ hq8n)
    have hql : q9 ≠ l := fun z => tap8.ln (z ▸ hq8n)
    have hqp : p ≠ q9 := fun z => by rw [← z, hp8] at hq8n; cases hq8n
    have hy9 := Ext.net x9 hy8
    have hf9 := Ext.net x9 (NetAt.mono s8 hf7)
    -- the test
    refine tSeq_cut (fun σ H11 => σ = [some (.ref sc), some (.ref t), some (.int (i : Nat)), some (.ref m), some (.ref b), some (.ref f), u6, some (.ref y), some (.ref tt)] ∧ SameX [t] H9 H11 ∧ Ext H9 H11 ∧ Tap t l ms (1200 * i + 1090) H11) (fun NX2 fin2 => ?_) fun σ H11 ⟨es, s11, x11, tap11⟩ => ?_
    · refine ⟨_, rfl, b, dx, _, rfl, hb9, r, b, dx, a, p, q9, d, M, rfl, hb9, hnc9, hM, fun z H10 s10 nz hz => ?_⟩
      have hf10 := NetAt.mono s10 hf9
      obtain ⟨dz, _, _, _, iz, _⟩ := id hz
      obtain ⟨df, _, _, _, jf, _⟩ := id hf10
      refine ⟨_, rfl, r, z, dz, _, f, df, _, rfl, rfl, iz, jf, z, f, M, M, rfl, hz, hf10, _, rfl, _, rfl, ?_⟩
      rw [decide_eq_true ⟨rfl, rfl, rfl⟩]
      refine iteF ?_
      refine ⟨_, rfl, _, rfl, _, rfl, _, rfl, r, t, l, y, f, tt, ms, 1200 * i + 1010, M7, M, rfl, tap9.mono s10, by omega, NetAt.mono s10 hy9, hM7, hf10, hM, hn7.symm, by omega, Same.sqt s10 htt9, fun H11 s11 x11 tap11 => ?_⟩
      exact ⟨_, rfl, iteF (fin2 _ _ ⟨rfl, (SameX.of s10).trans s11, (Same.ext s10).trans x11, tap11⟩)⟩
    subst es
    have sH11 : Same H H11 := Same.moreX sH9 s11 fun z hz => by rw [List.mem_singleton.mp hz]; exact htH
    have hb11 : BAt K H11 b dx a p q9 d := s11 _ _ (by simpa using Ne.symm htb) hb9
    have hp11 := s11 _ _ (by simpa using Ne.symm htp) hp9
    have hq11 := s11 _ _ (by simpa using hqt) hq9
    have hv11 := x11 _ _ hv9 rfl
    -- undo
    refine tSeq_cut (fun σ H12 => σ = [some (.ref sc), some (.ref t), some (.int (i : Nat)), some (.ref m), some (.ref b), some (.ref f), u6, some (.ref y), some (.ref tt)] ∧ ∃ q12, SameX [b, p, q9] H11 H12 ∧ Ext H11 H12 ∧ BAt K H12 b dx a7 p q12 d) (fun NX2 fin2 => ?_) fun σ H12 ⟨es, q12, s12, x12, hb12⟩ => ?_
    · exact ⟨_, rfl, b, dx, _, rfl, hb11, rfl, b, dx, a, p, q9, d, a7, vp, ps7, [], ev, rfl, hb11, hp11, isT hv11, hq11, hqp, by omega, by simp, fun H12 u s12 x12 hb12 hp12 hq12 hu12 => fin2 _ _ ⟨rfl, _, s12, x12, hb12⟩⟩
    subst es
    have sH12 : Same H H12 := Same.moreX sH11 s12 fun z hz => by
      rcases List.mem_cons.mp hz with c | c
      · rw [c]; exact hbH
      · rcases List.mem_cons.mp c with c | c
        · rw [c]; exact hpH
        · rw [List.mem_singleton.mp c]; exact hqH
    have tap12 : Tap t l ms (1200 * i + 1090) H12 := tap11.x s12 (by simp; exact ⟨htb, htp, Ne.symm hqt⟩) (by simp; exact ⟨hlb, hlp, Ne.symm hql⟩)
    have x912 := x11.trans x12
    refine ⟨_, rfl, b, dx, _, rfl, hb12, r, b, dx, a7, p, q12, d, M7, rfl, hb12, Ext.net x912 hna9, hM7, fun z H13 s13 nz hz => ?_⟩
    have hy13 := Ext.net (x912.trans (Same.ext s13)) hy9
    obtain ⟨dz, _, _, _, iz, _⟩ := id hz
    obtain ⟨dy, _, _, _, iy, _⟩ := id hy13
    refine ⟨_, rfl, r, z, dz, _, y, dy, _, rfl, rfl, iz, iy, z, y, M7, M7, rfl, hz, hy13, _, rfl, _, rfl, ?_⟩
    rw [decide_eq_true ⟨rfl, rfl, rfl⟩]
    exact iteF ⟨_, _, _, _, _, _, _, rfl, sH12.trans s13, (tap12.mono s13).more (by omega)⟩
end
end Cp
set_option maxHeartbeats 0
open PySem PySem.W PySem.Calls PyProof.Rows
theorem PySem.Challenge.cw_carryprobe_k87_whole_changes_seen_in_tri_holds : PySem.Challenge.rw_carryprobe_k87_whole_changes_seen_in_tri.Holds := by
  w_on; o_law
  refine HandSHeadRun.head_any (r := CpH.R) (q := CpH.qv) (H := Cp.hookC) (ob := Cp.obC) (M := 13000) (loose := CpH.names) (d := HandSHeadRun.topDef CpH.R.prog 131) (kwd := []) Cp.obC_eq
    (by kernel_rfl) (fun s => by kernel_rfl) CpH.run (by kernel_rfl) (by kernel_rfl) (by kernel_rfl) (by rfl) (by first | assumption | decide +kernel) (by decide +kernel) ⟨rfl, rfl, rfl, rfl, rfl, by decide +kernel⟩ ?hw ?hc
  case hw => w_witness2
  case hc =>
    refine L2.walk_ofE (l := PySem.Challenge.rw_carryprobe_k87_whole_changes_seen_in_tri) (n := 63) (k := 12) (x := "_law_script") (CX := L2.CX0) rfl (by decide) (by kernel_rfl) ⟨rfl, by decide, by decide⟩ ?F (fun _ _ _ _ z => z)
    intro w mg fa h Y G hmg0
    obtain ⟨K, KX, c⟩ := Y
    have hmg : mg ("law" : PySem.Str) = some (.ref fa) := by
      have e : (HandSHeadRun.topDef CpH.R.prog 131).name = ("law" : PySem.Str) := by kernel_rfl
      rw [← e]
      exact hmg0
    have T : Cp.Txt w K mg := Cp.txt_of KX G c
    have e := hmg.symm.trans T.g_law
    cases e
    obtain ⟨fd, F⟩ := T.f_law
    have b := L2.FunD.bindsA (ps := ["_law_script"]) F fun _ _ _ _ _ _ us hl => match us, hl with | [_], _ => rfl
    exact ⟨K, fd, Cp.spLaw K, KX, fun s v => b s [v] rfl, fun H a ns hl _ hS => ⟨a, ns, rfl, hS, fun _ _ => rfl⟩, fun base _ _ => Cp.ok_law T F⟩
